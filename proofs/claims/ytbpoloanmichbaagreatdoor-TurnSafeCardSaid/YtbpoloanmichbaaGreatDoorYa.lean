/-
  Proved here: parts of the evaluator of the model's code on data of any value: its data and its operations. No condition.
-/
import Derived.Test.YtbpoloanmichbaaGreatDoorSc
import Derived.Below
import Derived.RangeFuncRecord
import Derived.Laws.StructEq
import Derived.Test.YtbpoloanmichbaaGreatDoorSb
set_option linter.unusedVariables false
set_option linter.unusedSimpArgs false
namespace Go.Sy
open Go.Sim (Tr aV bM bA bL)
inductive PV where
 |int (n:Int)
 |bool (b:Bool)
 |str (s:ByteArray)
 |list (l:List PV)
 |agg (l:List PV)
namespace PV
def zero:PV:= .int 0
def toInt:PV→Int
 | .int n=>n
 |_=>0
def toBool:PV→Bool
 | .bool b=>b
 |_=>false
def toStr:PV→ByteArray
 | .str s=>s
 |_=>⟨#[]⟩
def toList:PV→List PV
 | .list l=>l
 |_=>[]
def cells:PV→List PV
 | .agg l=>l
 |_=>[]
end PV
open PV (zero)
def nth (l:List PV) (i:Nat):PV:=l.getD i .zero
def aj (p:PV) (j:Nat):PV:=p.cells.getD j .zero
def rd (l:List PV) (i:Int):PV:=l.getD i.toNat .zero
def bp (i:Int) (n:Nat):Bool:=decide (0≤i)&&decide (i<n)
def sub (l:List PV) (lo hi:Int):List PV:=(l.take hi.toNat).drop lo.toNat
def bt (s:ByteArray) (i:Int):Int:=(s.data.toList.getD i.toNat 0).toNat
def pX (p:PV) (j:Nat) (q:PV):PV:= .agg (p.cells.set j q)
inductive AV where
 |int (k:IntKind) (n:Int)
 |bool (b:Bool)
 |str (s:ByteArray)
 |list (e:TypeId) (l:List PV)
 |own (i:Nat)
 |ptr (i off:Nat)
 |sG (e:TypeId) (l:List PV) (k:Int) (off:Nat)
 |nZ (i:Nat) (e:TypeId) (k:Int) (off:Nat)
 |agg (l:List AV) (w:Option (TypeId×PV))
 |pT (l:List AV)
 |fn (f:FuncId) (cap:List AV)
 |wA (v:Value)
 |vM (i:Nat)
 |gp (g:Nat) (off:Int)
inductive AO where
 |box (l:List AV) (w:Option (TypeId×PV))
 |row (e:TypeId) (l:List PV)
 |mp (t:TypeId) (l:List PV)
abbrev Lay (α:Type):=List (Tr (Option α))
structure St where
 tm:Lay AV
 ob:Lay AO
 next:Nat
noncomputable section
def look {α:Type}:Lay α→Nat→Option α
 |[],_=>none
 |t::ts,k=>match t.get k with
  |some r=>r
  |none=>look ts k
def free {α:Type} (s:Lay α) (k:Nat):Bool:=match s with
 |[]=>false
 |t::ts=>match t.get k with
  |some _=>true
  |none=>match look ts k with
   |none=>true
   |some _=>false
def put {α:Type} (s:Lay α) (k:Nat) (v:Option α):Option (Lay α):=match s with
 |[]=>none
 |t::ts=>match free (t::ts) k with
  |true=>some (t.set k v::ts)
  |false=>none
def tB:Value→Option AV
 | .int k n=>match decide (k.wrap n=n) with
  |true=>some (.int k n)
  |false=>none
 | .bool b=>some (.bool b)
 | .string s=>match Nat.ble s.size 9223372036854775807 with
  |true=>some (.str s)
  |false=>none
 | .agg ⟨l⟩=>match HC l with
  |some l=>some (.agg l none)
  |none=>none
 |v=>match bL v with
  |true=>some (.wA v)
  |false=>none
 where HC:List Value→Option (List AV)
 |[]=>some []
 |v::l=>match tB v,HC l with
  |some v,some l=>some (v::l)
  |_,_=>none
def aL (s:St):Operand→Option AV
 | .tmp t=>look s.tm t
 | .const v=>tB v
 | .func f=>some (.fn f [])
 | .global g=>some (.gp g 0)
def cO (s:St):List Operand→Option (List AV)
 |[]=>some []
 |x::l=>match aL s x,cO s l with
  |some v,some l=>some (v::l)
  |_,_=>none
section
variable (P:Program)
def rep:Nat→List TypeId→List TypeId
 |0,_=>[]
 |n+1,l=>l++rep n l
def aeh (g:TypeId→List TypeId):List Field→List TypeId
 |[]=>[]
 |f::fs=>g f.type++aeh g fs
def tys:Nat→TypeId→List TypeId
 |0,t=>[t]
 |d+1,t=>match P.underlying t with
  |some (.struct fs)=>aeh (tys d) fs.toList
  |some (.array n e)=>rep n (tys d e)
  |_=>[t]
def dep:Nat:=12
def aI (e:TypeId):List TypeId:=tys P dep e
def isAgg (e:TypeId):Bool:=match bM P e with
 |some b=>b
 |none=>false
def cellAt (e:TypeId) (p:PV) (j:Nat):PV:=match isAgg P e with
 |true=>aj p j
 |false=>p
def setAt (e:TypeId) (p:PV) (j:Nat) (q:PV):PV:=match isAgg P e with
 |true=>pX p j q
 |false=>q
def Ag (t:TypeId) (p:PV):Option AV:=match P.underlying t with
 |some (.int k)=>some (.int k p.toInt)
 |some .bool=>some (.bool p.toBool)
 |some .string=>some (.str p.toStr)
 |some (.slice e)=>some (.list e p.toList)
 |_=>none
def qU (p:PV):List TypeId→Nat→Option (List AV)
 |[],_=>some []
 |t::ts,j=>match Ag P t (aj p j),qU p ts (j+1) with
  |some v,some l=>some (v::l)
  |_,_=>none
def TV:List TypeId→List TypeId→Bool
 |[],[]=>true
 |a::l,b::r=>match Nat.beq a b with
  |true=>TV l r
  |false=>false
 |_,_=>false
def aJ (p:PV) (off n:Nat):PV:= .agg ((p.cells.drop off).take n)
def TW (t t0:TypeId) (p:PV) (off n:Nat):Option (TypeId×PV):=match Nat.beq off 0,Nat.beq t t0,Nat.beq n (aI P t0).length with
 |true,true,true=>some (t,p)
 |_,_,_=>match TV (aI P t) (((aI P t0).drop off).take n) with
  |true=>some (t,aJ p off n)
  |false=>none
def sH (t e:TypeId) (p:PV) (off:Nat):Option AV:=match bM P t,aV P t with
 |some true,some n=>match Nat.ble (off+n) (aI P e).length,isAgg P e with
  |true,true=>match qU P p (((aI P e).drop off).take n) off with
   |some l=>some (.agg l (TW P t e p off n))
   |none=>none
  |_,_=>none
 |some false,some _=>match (aI P e)[off]? with
  |some u=>Ag P u (cellAt P e p off)
  |none=>none
 |_,_=>none
def wide (t:TypeId):Bool:=match aV P t with
 |some n=>Nat.beq n (aI P t).length
 |none=>false
def PF (t:TypeId) (p:PV):Option AV:=match wide P t with
 |true=>sH P t t p 0
 |false=>none
def rowOf (s:St) (i:Nat):Option (TypeId×List PV):=match look s.ob i with
 |some (.row e l)=>some (e,l)
 |_=>none
def mapOf (s:St) (i:Nat):Option (TypeId×List PV):=match look s.ob i with
 |some (.mp t l)=>some (t,l)
 |_=>none
def By (s:St) (i:Nat):Option (List AV×Option (TypeId×PV)):=match look s.ob i with
 |some (.box l w)=>some (l,w)
 |_=>none
def toCell (s:St) (t:TypeId) (v:AV):Option PV:=match P.underlying t,v with
 |some (.int k), .int k' n=>match decide (k=k') with
  |true=>some (.int n)
  |false=>none
 |some .bool, .bool b=>some (.bool b)
 |some .string, .str b=>some (.str b)
 |some (.slice e), .list e' l=>match Nat.beq e e' with
  |true=>some (.list l)
  |false=>none
 |some (.slice e), .own i=>match rowOf s i with
  |some (e',l)=>match Nat.beq e e' with
   |true=>some (.list l)
   |false=>none
  |none=>none
 |some (.slice _), .wA (.slice none 0 0)=>some (.list [])
 |_,_=>none
def uN (s:St):List TypeId→List AV→Option (List PV)
 |[],[]=>some []
 |t::ts,v::l=>match toCell P s t v,uN s ts l with
  |some p,some r=>some (p::r)
  |_,_=>none
 |_,_=>none
def MZ (t:TypeId) (w:Option (TypeId×PV)):Option PV:=match w with
 |some (t',p)=>match Nat.beq t t' with
  |true=>some p
  |false=>none
 |none=>none
def M1 (s:St) (t:TypeId) (v:AV):Option PV:=match bM P t,v with
 |some true, .agg l w=>match MZ t w with
  |some p=>some p
  |none=>match uN P s (aI P t) l with
   |some r=>some (.agg r)
   |none=>none
 |some false,v=>toCell P s t v
 |_,_=>none
def EF (s:St):List TypeId→List AV→Option (List PV)
 |[],[]=>some []
 |t::ts,v::l=>match M1 P s t v,EF s ts l with
  |some p,some r=>some (p::r)
  |_,_=>none
 |_,_=>none
def cW:AV→List Nat
 | .own i=>[i]
 | .agg l _=>mG l
 | .pT l=>mG l
 |_=>[]
 where mG:List AV→List Nat
 |[]=>[]
 |v::l=>cW v++mG l
def lH (t:TypeId) (v:AV):List Nat:=match bM P t,v with
 |some true, .agg l w=>match MZ t w with
  |some _=>[]
  |none=>cW.mG l
 |_,v=>cW v
def ij:List TypeId→List AV→List Nat
 |t::ts,v::l=>lH P t v++ij ts l
 |_,_=>[]
def drop:List Nat→St→Option St
 |[],s=>some s
 |i::l,s=>match put s.ob i none with
  |some ob=>drop l {s with ob:=ob}
  |none=>none
end
end
end Go.Sy
namespace Go.Sy
open Go.Sim (Tr aV bM bA bL fP)
noncomputable section
section
variable (P:Program)
def aC {R:Type} (b:Bool) (x:Option R):Option R:=match b with
 |true=>x
 |false=>none
def andThen {α R:Type} (x:Option α) (k:α→Option R):Option R:=match x with
 |some a=>k a
 |none=>none
def aN:Nat:=9223372036854775807
def aM (s t:ByteArray):Bool:=decide (s.data.toList=t.data.toList)
def strLt (s t:ByteArray):Bool:=Sim.iF s.data.toList t.data.toList
def R9 (op:BinOp) (s t:ByteArray):Option Bool:=match op with
 | .eql=>some (aM s t)
 | .neq=>some (!aM s t)
 | .lss=>some (strLt s t)
 | .geq=>some (!strLt s t)
 | .gtr=>some (strLt t s)
 | .leq=>some (!strLt t s)
 |_=>none
def strOf (l:List PV):ByteArray:=⟨(l.map fun p=>UInt8.ofNat p.toInt.toNat).toArray⟩
def ofStr (s:ByteArray):List PV:=s.data.toList.map fun b=> .int b.toNat
def XT (op:BinOp) (k:IntKind) (x y:Int):Option Int:=match op with
 | .and=>some (k.wrap (BitVec.ofInt k.bits x &&& BitVec.ofInt k.bits y).toNat)
 | .or=>some (k.wrap (BitVec.ofInt k.bits x ||| BitVec.ofInt k.bits y).toNat)
 | .xor=>some (k.wrap (BitVec.ofInt k.bits x ^^^ BitVec.ofInt k.bits y).toNat)
 |_=>none
def aei (op:BinOp) (k:IntKind) (x y:Int):Option AV:=match op with
 | .add=>some (.int k (k.wrap (x+y)))
 | .sub=>some (.int k (k.wrap (x - y)))
 | .mul=>some (.int k (k.wrap (x*y)))
 | .eql=>some (.bool (x==y))
 | .neq=>some (.bool (x != y))
 | .lss=>some (.bool (decide (x<y)))
 | .leq=>some (.bool (decide (x≤y)))
 | .gtr=>some (.bool (decide (x>y)))
 | .geq=>some (.bool (decide (x≥y)))
 |op=>match XT op k x y with
  |some n=>some (.int k n)
  |none=>none
def UJ (g:TypeId→List AV→List AV→Option Bool):List Field→List AV→List AV→Option Bool
 |[],_,_=>some true
 |f::fs,la,lb=>match f.name== "_",aV P f.type with
  |false,some n=>match g f.type ((la.drop f.offset).take n) ((lb.drop f.offset).take n),UJ g fs la lb with
   |some p,some q=>some (p&&q)
   |_,_=>none
  |_,_=>none
def eqV:Nat→TypeId→List AV→List AV→Option Bool
 |0,_,_,_=>none
 |d+1,t,la,lb=>match P.underlying t with
  |some (.int _)=>match la,lb with
   |[.int k a],[.int k' b]=>match decide (k=k') with
    |true=>some (a==b)
    |false=>none
   |_,_=>none
  |some .bool=>match la,lb with
   |[.bool a],[.bool b]=>some (a==b)
   |_,_=>none
  |some .string=>match la,lb with
   |[.str a],[.str b]=>some (aM a b)
   |_,_=>none
  |some (.struct fs)=>match P.stoodInHeld t with
   |false=>UJ P (eqV d) fs.toList la lb
   |true=>none
  |_=>none
def aaj (op:BinOp) (T:TypeId) (a b:AV):Option AV:=match a,b with
 | .bool p, .bool q=>match op,P.underlying T with
  | .eql,some .bool=>some (.bool (p==q))
  | .neq,some .bool=>some (.bool (p != q))
  |_,_=>none
 | .str s, .str t=>match R9 op s t with
  |some q=>some (.bool q)
  |none=>none
 | .agg la _, .agg lb _=>match P.underlying T,P.eqGuardType P.depth T with
  |some (.struct _),false=>match eqV P dep T la lb with
   |some q=>match op with
    | .eql=>some (.bool q)
    | .neq=>some (.bool (!q))
    |_=>none
   |none=>none
  |_,_=>none
 |_,_=>none
def mR (x y:Int):Int:=if y<x then y else x
def jL (x y:Int):Int:=if y>x then y else x
def acq:AV→Bool
 | .gp _ _=>true
 |_=>false
def acr:AV→Bool
 | .agg _ _=>false
 | .pT _=>false
 | .wA v=>Sim.dU v
 |_=>true
def K4:List AV→Bool
 |[]=>true
 |v::l=>match acr v with
  |true=>K4 l
  |false=>false
def gj:AV→List AV
 | .agg l _=>l
 |v=>[v]
def M3:AV→Option (TypeId×PV)
 | .agg _ w=>w
 |_=>none
section
variable {R:Type} (s:St) (fr:Nat) (K:AV→St→Option R)
def qg (l:List AV) (w:Option (TypeId×PV)):Option R:=match K4 l,put s.ob fr (some (.box l w)) with
 |true,some ob=>K (.ptr fr 0) {s with ob:=ob}
 |_,_=>none
def newRow (e:TypeId) (l:List PV) (s:St):Option R:=match put s.ob fr (some (.row e l)) with
 |some ob=>K (.own fr) {s with ob:=ob}
 |none=>none
def K5 (t:TypeId) (l:List AV) (w:Option (TypeId×PV)) (off:Nat):Option AV:=match bM P t,aV P t with
 |some true,some n=>match Nat.ble (off+n) l.length with
  |true=>some (.agg ((l.drop off).take n) (match w with
   |some (t0,p)=>TW P t t0 p off n
   |none=>none))
  |false=>none
 |some false,_=>l[off]?
 |_,_=>none
def TX (l:List AV) (off:Nat) (c:List AV):List AV:=l.take off++c++l.drop (off+c.length)
def EG:List (Nat×List AV)→List AV→Option (List AV)
 |[],l=>some l
 |(off,c)::rest,l=>match Nat.ble (off+c.length) l.length with
  |true=>EG rest (TX l off c)
  |false=>none
def Dz (fs:List Field):List (Nat×Operand)→Option (List (Nat×List AV))
 |[]=>some []
 |(i,x)::l=>match fs[i]?,aL s x,Dz fs l with
  |some f,some v,some r=>match aV P f.type with
   |some n=>match Nat.beq (gj v).length n with
    |true=>some ((f.offset,gj v)::r)
    |false=>none
   |none=>none
  |_,_,_=>none
def DA (size:Nat):List (Nat×Operand)→Option (List (Nat×List AV))
 |[]=>some []
 |(i,x)::l=>match aL s x,DA size l with
  |some v,some r=>match Nat.beq (gj v).length size with
   |true=>some ((i*size,gj v)::r)
   |false=>none
  |_,_=>none
def HD (t:TypeId):Option (List AV):=match bA P t with
 |some z=>match tB z with
  |some v=>some (gj v)
  |none=>none
 |none=>none
def DB (e:TypeId):Nat→List (Nat×Operand)→Option (List PV×List Nat)
 |_,[]=>some ([],[])
 |k,(i,x)::l=>match Nat.beq i k,aL s x with
  |true,some v=>match M1 P s e v,DB e (k+1) l with
   |some p,some (r,o)=>some (p::r,lH P e v++o)
   |_,_=>none
  |_,_=>none
def vO (t:TypeId) (a:AV):Option R:=match a with
 | .ptr i off=>match By s i with
  |some (l,w)=>andThen (K5 P t l w off) fun v=>K v s
  |none=>none
 | .sG e l k off=>andThen (sH P t e (rd l k) off) fun v=>K v s
 | .nZ i e k off=>match rowOf s i with
  |some (e',l)=>match Nat.beq e e' with
   |true=>andThen (sH P t e (rd l k) off) fun v=>K v s
   |false=>none
  |none=>none
 |_=>none
def gk (e:TypeId) (p:PV):Nat→List PV→PV
 |_,[]=>p
 |j,q::l=>gk e (setAt P e p j q) (j+1) l
def DD (t:TypeId) (a v:AV):Option R:=match aV P t with
 |none=>none
 |some n=>match Nat.beq (gj v).length n,K4 (gj v) with
  |true,true=>match a with
   | .ptr i off=>match By s i with
    |some (l,_)=>match Nat.ble (off+n) l.length,put s.ob i (some (.box (TX l off (gj v)) (match Nat.beq off 0,Nat.beq n l.length with
     |true,true=>M3 v
     |_,_=>none))) with
     |true,some ob=>K (.pT []) {s with ob:=ob}
     |_,_=>none
    |none=>none
   | .nZ i e k off=>match rowOf s i with
    |some (e',l)=>match Nat.beq e e',Nat.ble (off+n) (aI P e).length,uN P s (((aI P e).drop off).take n) (gj v),drop (cW.mG (gj v)) s with
     |true,true,some c,some s=>match put s.ob i (some (.row e (l.set k.toNat (gk P e (rd l k) off c)))),rowOf s i with
      |some ob,some _=>K (.pT []) {s with ob:=ob}
      |_,_=>none
     |_,_,_,_=>none
    |none=>none
   |_=>none
  |_,_=>none
def HE (fd:Field) (a:AV):Option AV:=match aV P fd.type with
 |some 0=>none
 |some _=>match a with
  | .ptr i off=>some (.ptr i (off+fd.offset))
  | .sG e l k off=>some (.sG e l k (off+fd.offset))
  | .nZ i e k off=>some (.nZ i e k (off+fd.offset))
  | .gp g off=>some (.gp g (off+fd.offset))
  |_=>none
 |none=>none
def DE (d:TypeDesc) (a:AV) (k:Int):Option R:=match d,a with
 | .slice e, .list e' l=>match Nat.beq e e' with
  |true=>aC (bp k l.length) (K (.sG e l k 0) s)
  |false=>none
 | .slice e, .own i=>match rowOf s i with
  |some (e',l)=>match Nat.beq e e' with
   |true=>aC (bp k l.length) (K (.nZ i e k 0) s)
   |false=>none
  |none=>none
 | .array n e, .ptr i off=>match aV P e with
  |some size=>aC (bp k n) (K (.ptr i (off+k.toNat*size)) s)
  |none=>none
 | .array n e, .gp g off=>match aV P e with
  |some size=>aC (bp k n) (K (.gp g (off+k*size)) s)
  |none=>none
 |_,_=>none
def acs (d:TypeDesc) (a:AV):Option Nat:=match d,a with
 | .string, .str b=>some b.size
 | .slice _, .list _ l=>some l.length
 | .slice _, .own i=>match rowOf s i with
  |some (_,l)=>some l.length
  |none=>none
 | .slice _, .wA (.slice none 0 0)=>some 0
 |_,_=>none
def acu (e:TypeId):Option Nat:=match fP P e,bA P e,wide P e with
 |some b,some z,true=>match bL z,Nat.beq (Sim.bC z).length (aI P e).length with
  |true,true=>some b
  |_,_=>none
 |_,_,_=>none
def dO (b n:Nat):Bool:=Nat.ble (n*b) 140737488355328&&Nat.ble n 140737488355328
def roomy (e:TypeId) (n:Nat):Bool:=match acu P e with
 |some b=>dO b n
 |none=>false
def TY (e:TypeId):Option PV:=match bA P e,P.underlying e with
 |some (.int k n),some (.int k')=>match decide (k=k'),decide (n=0) with
  |true,true=>some (.int 0)
  |_,_=>none
 |some (.bool q),some .bool=>match q with
  |false=>some (.bool false)
  |true=>none
 |_,_=>none
def mkB (b:Nat) (n c:Int):Bool:=decide (0≤n)&&decide (n=c)&&Nat.ble (b*c.toNat+c.toNat) 281474976710656
def Vb (d:Option TypeDesc) (e:TypeId) (a:AV):Option (List PV):=match d,a with
 |some (.slice _), .list e' l=>match Nat.beq e e' with
  |true=>some l
  |false=>none
 |some (.slice _), .own i=>match rowOf s i with
  |some (e',l)=>match Nat.beq e e' with
   |true=>some l
   |false=>none
  |none=>none
 |some (.slice _), .wA (.slice none 0 0)=>some []
 |some .string, .str b=>match P.underlying e with
  |some (.int .u8)=>some (ofStr b)
  |_=>none
 |_,_=>none
def yB (ts:List TypeId) (b x:AV):Option R:=match ts with
 |t::u::_=>match P.underlying t with
  |some (.slice e)=>match Vb P s (P.underlying u) e x with
   |some new=>match b with
    | .wA (.slice none 0 0)=>aC (roomy P e new.length) (newRow fr K e new s)
    | .own i=>match rowOf s i,put s.ob i none with
     |some (e',l),some ob=>match Nat.beq e e' with
      |true=>aC (roomy P e (l.length+new.length)) (newRow fr K e (l++new) {s with ob:=ob})
      |false=>none
     |_,_=>none
    |_=>none
   |none=>none
  |_=>none
 |_=>none
def aak:Option Operand→Option (Option Int)
 |none=>some none
 |some x=>match aL s x with
  |some (.int _ n)=>some (some n)
  |_=>none
def uE (d:TypeDesc) (a:AV) (lo hi:Option Int):Option R:=match d,a with
 | .string, .str b=>aC (bp (lo.getD 0) ((hi.getD b.size).toNat+1)&&bp (hi.getD b.size) (b.size+1)) (K (.str (b.extract (lo.getD 0).toNat (hi.getD b.size).toNat)) s)
 | .slice e, .list e' l=>match Nat.beq e e'&&wide P e with
  |true=>aC (bp (lo.getD 0) ((hi.getD l.length).toNat+1)&&bp (hi.getD l.length) (l.length+1)) (K (.list e (Sy.sub l (lo.getD 0) (hi.getD l.length))) s)
  |false=>none
 |_,_=>none
def K6 (a b:TypeId) (v:AV):Option R:=match v with
 | .int k n=>match P.underlying a,P.underlying b with
  |some _,some (.int k')=>K (.int k' (k'.wrap n)) s
  |_,_=>none
 | .str t=>match P.underlying a,P.underlying b with
  |some .string,some .string=>K (.str t) s
  |_,_=>none
 |_=>match P.underlying a,P.underlying b with
  |some (.slice e),some .string=>match P.underlying e,Vb P s (some (.slice e)) e v,wide P e with
   |some (.int .u8),some l,true=>aC (Nat.ble l.length aN) (K (.str (strOf l)) s)
   |_,_,_=>none
  |_,_=>none
def M4 (mx:Bool) (l:List AV):Option AV:=match l with
 |[.int k x, .int k' y]=>match decide (k=k') with
  |true=>some (.int k (match mx with
   |true=>jL x y
   |false=>mR x y))
  |false=>none
 |_=>none
def xd (op:BinOp) (k:IntKind) (n n':Int):Option R:=match op with
 | .shl=>aC (decide (0≤n')) (K (.int k (k.wrap (n*2 ^ (min n'.toNat k.bits)))) s)
 | .shr=>aC (decide (0≤n')) (K (.int k (n.fdiv (2 ^ (min n'.toNat k.bits)))) s)
 |_=>none
def DF (op:BinOp) (k k':IntKind) (n n':Int):Option R:=match decide (k=k') with
 |true=>match op with
  | .quo=>aC (!(n'==0)) (K (.int k (k.wrap (n.tdiv n'))) s)
  | .rem=>aC (!(n'==0)) (K (.int k (n.tmod n')) s)
  | .shl=>xd s K .shl k n n'
  | .shr=>xd s K .shr k n n'
  |op=>andThen (aei op k n n') fun v=>K v s
 |false=>xd s K op k n n'
def eM:PV→PV→Bool
 | .int a, .int b=>a==b
 | .str a, .str b=>aM a b
 |_,_=>false
def qh:List PV→PV→Option PV
 |[],_=>none
 |p::l,k=>match eM k (aj p 0) with
  |true=>some (aj p 1)
  |false=>qh l k
def qV (l:List PV) (k z:PV):PV:=match qh l k with
 |some p=>p
 |none=>z
def PG (l:List PV) (k:PV):Bool:=match qh l k with
 |some _=>true
 |none=>false
def cL:List PV→PV→PV→List PV
 |[],k,v=>[.agg [k,v]]
 |p::l,k,v=>match eM k (aj p 0) with
  |true=> .agg [k,v]::l
  |false=>p::cL l k v
def HF (t:TypeId):Option (TypeId×TypeId):=match P.underlying t with
 |some (.map k v)=>match P.underlying k with
  |some (.int _)=>some (k,v)
  |some .string=>some (k,v)
  |_=>none
 |_=>none
def zeroV (t:TypeId):Option PV:=match bA P t with
 |some z=>match tB z with
  |some a=>match lH P t a with
   |[]=>M1 P s t a
   |_=>none
  |none=>none
 |none=>none
def TZ (t:TypeId) (a:AV):Option (Nat×TypeId×TypeId×TypeId×List PV):=match HF P t,a with
 |some (k,v), .own i=>match mapOf s i with
  |some (t',l)=>match HF P t' with
   |some (k',v')=>match Nat.beq k k',Nat.beq v v' with
    |true,true=>some (i,t',k,v,l)
    |_,_=>none
   |none=>none
  |none=>none
 |_,_=>none
def yC (t:TypeId) (a x:AV) (ok:Bool):Option R:=match TZ P s t a with
 |some (_,_,k,v,l)=>andThen (M1 P s k x) fun kp=>andThen (zeroV P s v) fun z=>andThen (PF P v (qV l kp z)) fun u=>match ok with
  |true=>K (.pT [u, .bool (PG l kp)]) s
  |false=>K u s
 |none=>none
def uO (t:TypeId) (a x y:AV):Option R:=match TZ P s t a with
 |some (i,t',k,v,l)=>andThen (M1 P s k x) fun kp=>andThen (M1 P s v y) fun vp=>andThen (drop (lH P v y) s) fun s=>match put s.ob i (some (.mp t' (cL l kp vp))),mapOf s i with
  |some ob,some _=>K (.pT []) {s with ob:=ob}
  |_,_=>none
 |none=>none
def wr:Op→Bool
 | .store .. =>true
 | .buildSlice .. =>true
 | .mapUpdate .. =>true
 | .insert .. =>true
 | .call ⟨.builtin .append,_,_⟩=>true
 |_=>false
def cr (call:AV→List AV→St→Nat→(AV→St→Option R)→Option R) (o:Op):Option R:=match o with
 | .move x=>andThen (aL s x) fun v=>K v s
 | .assign x=>andThen (aL s x) fun v=>K v s
 | .pick c a b=>match aL s c with
  |some (.bool q)=>match q with
   |true=>andThen (aL s a) fun v=>K v s
   |false=>andThen (aL s b) fun v=>K v s
  |_=>none
 | .alloc t=>andThen (HD P t) fun l=>qg s fr K l none
 | .box t x=>andThen (aL s x) fun v=>qg s fr K (gj v) (M3 v)
 | .build t parts=>match HD P t,P.underlying t with
  |some z,some (.struct fs)=>aC (Sim.fO P fs.toList) (andThen (Dz P s fs.toList parts.toList) fun ps=>andThen (EG ps z) fun l=>K (.agg l none) s)
  |some z,some (.array _ e)=>andThen (aV P e) fun n=>andThen (DA s n parts.toList) fun ps=>andThen (EG ps z) fun l=>K (.agg l none) s
  |_,_=>none
 | .buildSlice t len parts=>match P.underlying t with
  |some (.slice e)=>match DB P s e 0 parts.toList,bA P e,Nat.beq parts.toList.length len,Nat.ble (len*(aI P e).length) 16777216,Nat.ble len 16777216,wide P e with
   |some (l,o),some _,true,true,true,true=>andThen (drop o s) fun s=>newRow fr K e l s
   |_,_,_,_,_,_=>none
  |_=>none
 | .makeSlice t len cap=>match P.underlying t with
  |some (.slice e)=>match aL s len,aL s cap,TY P e,fP P e,wide P e with
   |some (.int _ n),some (.int _ c),some p,some b,true=>aC (mkB b n c) (newRow fr K e (List.replicate n.toNat p) s)
   |_,_,_,_,_=>none
  |_=>none
 | .makeMap t none=>match HF P t,put s.ob fr (some (.mp t [])) with
  |some _,some ob=>K (.own fr) {s with ob:=ob}
  |_,_=>none
 | .makeMap t (some x)=>match HF P t,aL s x,put s.ob fr (some (.mp t [])) with
  |some _,some (.int _ _),some ob=>K (.own fr) {s with ob:=ob}
  |_,_,_=>none
 | .lookup t x i ok=>andThen (aL s x) fun a=>andThen (aL s i) fun b=>yC P s K t a b ok
 | .mapUpdate t x i y=>andThen (aL s x) fun a=>andThen (aL s i) fun b=>andThen (aL s y) fun v=>uO P s K t a b v
 | .insert t x i y=>andThen (aL s x) fun a=>andThen (aL s i) fun b=>andThen (aL s y) fun v=>uO P s K t a b v
 | .load t x=>andThen (aL s x) fun a=>vO P s K t a
 | .store t x y=>andThen (aL s x) fun a=>andThen (aL s y) fun v=>DD P s K t a v
 | .nilCheck x=>match aL s x with
  |some (.ptr i off)=>K (.ptr i off) s
  |some (.sG e l k off)=>K (.sG e l k off) s
  |some (.nZ i e k off)=>K (.nZ i e k off) s
  |some (.fn f c)=>K (.fn f c) s
  |_=>none
 | .binOp op t x y _=>match aL s x,aL s y with
  |some (.str b),some (.str c)=>match op,P.underlying t with
   | .add,some .string=>aC (Nat.ble (b.size+c.size) aN) (K (.str (b++c)) s)
   |op,_=>andThen (aaj P op t (.str b) (.str c)) fun v=>K v s
  |some (.int k n),some (.int k' n')=>DF s K op k k' n n'
  |some a,some b=>andThen (aaj P op t a b) fun v=>K v s
  |_,_=>none
 | .unOp op _ x=>match aL s x with
  |some (.bool b)=>match op with
   | .not=>K (.bool (!b)) s
   |_=>none
  |some (.int k n)=>match op with
   | .neg=>K (.int k (k.wrap (0 - n))) s
   |_=>none
  |_=>none
 | .convert a b x=>andThen (aL s x) fun v=>K6 P s K a b v
 | .makeFunc (.func g) f c=>match f.toList,cO s c.toList with
  |[],some c=>K (.fn g c) s
  |_,_=>none
 | .slice t x lo hi none=>match P.underlying t,aL s x,aak s lo,aak s hi with
  |some d,some a,some lo,some hi=>uE P s K d a lo hi
  |_,_,_,_=>none
 | .fieldAddr t x f=>match aL s x,P.underlying t with
  |some a,some (.struct fs)=>andThen (fs.toList[f]?) fun fd=>andThen (HE P fd a) fun v=>K v s
  |_,_=>none
 | .field t x f=>match aL s x,P.underlying t with
  |some (.agg l w),some (.struct fs)=>andThen (fs.toList[f]?) fun fd=>andThen (K5 P fd.type l w fd.offset) fun v=>K v s
  |_,_=>none
 | .indexAddr t x i=>match P.underlying t,aL s x,aL s i with
  |some d,some a,some (.int _ k)=>DE P s K d a k
  |_,_,_=>none
 | .index t x i=>match P.underlying t,aL s x,aL s i with
  |some .string,some (.str b),some (.int _ k)=>aC (bp k b.size) (K (.int .u8 (bt b k)) s)
  |_,_,_=>none
 | .extract x i=>match aL s x with
  |some (.pT l)=>andThen (l[i]?) fun v=>K v s
  |_=>none
 | .call {callee:= .builtin b,args,argTypes}=>match b,cO s args.toList,argTypes.toList with
  | .len,some [v],t::_=>match P.underlying t with
   |some d=>andThen (acs s d v) fun n=>K (.int .i64 (n:Nat)) s
   |none=>none
  | .append,some [b,x],ts=>yB P s fr K ts b x
  | .min,some l,_=>andThen (M4 false l) fun v=>K v s
  | .max,some l,_=>andThen (M4 true l) fun v=>K v s
  |_,_,_=>none
 | .call {callee:= .value f,args,argTypes:=_}=>match aL s f,cO s args.toList with
  |some f,some l=>match acq f with
   |true=>none
   |false=>call f l s fr K
  |_,_=>none
 |_=>none
end
end
end
end Go.Sy
namespace Go.Sy
open Go.Sim (Tr aV bM bA bL Ex)
noncomputable section
def xe {α:Type} (n:Nat) (k:Nat→α):α:=Nat.rec (motive:=fun _=>α) (k (nat_lit 0)) (fun m _=>k (Nat.succ m)) n
theorem j6 {α:Type} (n:Nat) (k:Nat→α):xe n k=k n:=by cases n<;>rfl
inductive uP where
 |val (t:TypeId)
 |own (e:TypeId)
 |M5 (t:TypeId)
 |same (v:AV)
structure Spec where
 slots:List (Nat×uP):=[]
 boxes:List (Nat×List uP):=[]
 cw:List Nat:=[]
def XU:Value→Value→Bool
 | .slice none 0 0, .slice none 0 0=>true
 | .pointer none, .pointer none=>true
 | .nilFunc, .nilFunc=>true
 |_,_=>false
def HH {α:Type}:List α→Bool
 |[]=>true
 |_::_=>false
def Bz:AV→AV→Bool
 | .ptr i o, .ptr j p=>match Nat.beq i j with
  |true=>Nat.beq o p
  |false=>false
 | .fn f c, .fn g d=>match Nat.beq f g with
  |true=>K7 c d
  |false=>false
 | .wA a, .wA b=>XU a b
 | .pT l, .pT r=>match HH l with
  |true=>HH r
  |false=>false
 |_,_=>false
 where K7:List AV→List AV→Bool
 |[],[]=>true
 |v::l,u::r=>match Bz v u with
  |true=>K7 l r
  |false=>false
 |_,_=>false
section
variable (P:Program)
def tC (s:St) (h:uP) (v:AV):Option (List PV×List Nat):=match h with
 | .val t=>match M1 P s t v with
  |some p=>some ([p],lH P t v)
  |none=>none
 | .own e=>match v with
  | .own i=>match rowOf s i with
   |some (e',l)=>match Nat.beq e e' with
    |true=>some ([.list l],[i])
    |false=>none
   |none=>none
  | .wA (.slice none 0 0)=>some ([.list []],[])
  |_=>none
 | .M5 t=>match v with
  | .own i=>match mapOf s i with
   |some (t',l)=>match Nat.beq t t' with
    |true=>some ([.list l],[i])
    |false=>none
   |none=>none
  |_=>none
 | .same u=>match Bz v u with
  |true=>some ([],[])
  |false=>none
def vP (s:St):List uP→List AV→Option (List PV×List Nat)
 |[],[]=>some ([],[])
 |h::hs,v::l=>match tC P s h v,vP s hs l with
  |some (p,o),some (q,r)=>some (p++q,o++r)
  |_,_=>none
 |_,_=>none
def EH (s:St):List (Nat×uP)→Option (List PV×List Nat)
 |[]=>some ([],[])
 |(t,h)::l=>match look s.tm t with
  |some v=>match tC P s h v,EH s l with
   |some (p,o),some (q,r)=>some (p++q,o++r)
   |_,_=>none
  |none=>none
def PI (s:St):List (Nat×List uP)→Option (List PV×List Nat)
 |[]=>some ([],[])
 |(i,hs)::l=>match By s i with
  |some (vs,_)=>match vP P s hs vs,PI s l with
   |some (p,o),some (q,r)=>some (p++q,o++r)
   |_,_=>none
  |none=>none
def nodup:List Nat→Bool
 |[]=>true
 |i::l=>match l.contains i with
  |true=>false
  |false=>nodup l
def flat (s:St) (S:Spec):Option (List PV×List Nat):=match EH P s S.slots,PI P s S.boxes with
 |some (p,o),some (q,r)=>match nodup (o++r) with
  |true=>some (p++q,o++r)
  |false=>none
 |_,_=>none
def dead (ob:Lay AO):List Nat→Bool
 |[]=>true
 |i::l=>match look ob i with
  |none=>dead ob l
  |some _=>false
def fF:AV→List Nat
 | .own i=>[i]
 | .ptr i _=>[i]
 | .nZ i _ _ _=>[i]
 | .vM i=>[i]
 | .agg l _=>tD l
 | .pT l=>tD l
 | .fn _ c=>tD c
 |_=>[]
 where tD:List AV→List Nat
 |[]=>[]
 |v::l=>fF v++tD l
def sF (n:Nat):List Nat→Bool
 |[]=>true
 |i::l=>match Nat.blt i n with
  |true=>sF n l
  |false=>false
def XV (n:Nat):uP→Bool
 | .same u=>sF n (fF u)
 |_=>true
def M6 (n:Nat):List uP→Bool
 |[]=>true
 |h::l=>match XV n h with
  |true=>M6 n l
  |false=>false
def Gp (n:Nat):List (Nat×uP)→Bool
 |[]=>true
 |(_,h)::l=>match XV n h with
  |true=>Gp n l
  |false=>false
def yD (n:Nat):List (Nat×List uP)→Bool
 |[]=>true
 |(i,hs)::l=>match Nat.blt i n,M6 n hs with
  |true,true=>yD n l
  |_,_=>false
def sI (h:uP) (ρ:List PV) (k:Nat) (n:Nat):Option (AV×Nat×Nat×List (Nat×AO)):=match h with
 | .val t=>match PF P t (nth ρ k) with
  |some v=>some (v,k+1,n,[])
  |none=>none
 | .own e=>some (.own n,k+1,n+1,[(n, .row e (nth ρ k).toList)])
 | .M5 t=>some (.own n,k+1,n+1,[(n, .mp t (nth ρ k).toList)])
 | .same u=>some (u,k,n,[])
def FD:List uP→List PV→Nat→Nat→Option (List AV×Nat×Nat×List (Nat×AO))
 |[],_,k,n=>some ([],k,n,[])
 |h::hs,ρ,k,n=>match sI P h ρ k n with
  |some (v,k,n,o)=>match FD hs ρ k n with
   |some (l,k,n,o')=>some (v::l,k,n,o++o')
   |none=>none
  |none=>none
def FE:List (Nat×uP)→List PV→Nat→Nat→Tr (Option AV)→Option (Tr (Option AV)×Nat×Nat×List (Nat×AO))
 |[],_,k,n,T=>some (T,k,n,[])
 |(t,h)::l,ρ,k,n,T=>match sI P h ρ k n with
  |some (v,k,n,o)=>match FE l ρ k n (T.set t (some v)) with
   |some (T,k,n,o')=>some (T,k,n,o++o')
   |none=>none
  |none=>none
def FF:List (Nat×List uP)→List PV→Nat→Nat→Option (Nat×Nat×List (Nat×AO))
 |[],_,k,n=>some (k,n,[])
 |(i,hs)::l,ρ,k,n=>match FD P hs ρ k n with
  |some (vs,k,n,o)=>match FF l ρ k n with
   |some (k,n,o')=>some (k,n,(i, .box vs none)::(o++o'))
   |none=>none
  |none=>none
def Ah:List (Nat×AO)→Tr (Option AO)→Tr (Option AO)
 |[],T=>T
 |(i,o)::l,T=>Ah l (T.set i (some o))
def eG {α:Type}:List Nat→Tr (Option α)→Tr (Option α)
 |[],T=>T
 |i::l,T=>eG l (T.set i none)
def jm {α:Type} (s:Lay α):List Nat→Bool
 |[]=>true
 |i::l=>match free s i with
  |true=>jm s l
  |false=>false
def build (s:St) (S:Spec) (ρ:List PV):Option St:=match jm s.tm (S.slots.map (·.1)),jm s.ob (S.boxes.map (·.1)),jm s.tm S.cw,Gp s.next S.slots,yD s.next S.boxes with
 |true,true,true,true,true=>xe s.next fun n0=>match FE P S.slots ρ 0 n0 (eG S.cw .e) with
  |some (T,k,n,o)=>match FF P S.boxes ρ k n with
   |some (_,n,o')=>some ⟨T::s.tm,Ah (o++o') .e::s.ob,n⟩
   |none=>none
  |none=>none
 |_,_,_,_,_=>none
def BA {α:Type}:Tr α→Tr α→Tr α
 | .e,u=>u
 | .n l v r, .e=> .n l v r
 | .n l v r, .n l' v' r'=> .n (BA l l') (match v with
  |some v=>some v
  |none=>v') (BA r r')
def BB {α:Type}:Lay α→Lay α
 |a::b::l=>BA a b::l
 |l=>l
def pop (s:St):St:=⟨BB s.tm,BB s.ob,s.next⟩
def bK {α:Type} (s:Lay α):List Nat→Tr (Option α)→Tr (Option α)
 |[],T=>T
 |i::l,T=>bK s l (T.set i (look s i))
def R_ (s:St):List Nat→List Nat
 |[]=>[]
 |i::l=>match look s.ob i with
  |some _=>i::R_ s l
  |none=>R_ s l
def HI (s:St):List (Nat×uP)→List Nat
 |[]=>[]
 |(t,_)::l=>match look s.tm t with
  |some v=>cW v++HI s l
  |none=>HI s l
def M7 (s:St):List (Nat×List uP)→List Nat
 |[]=>[]
 |(i,_)::l=>match By s i with
  |some (vs,_)=>cW.mG vs++M7 s l
  |none=>M7 s l
def DG (s:St) (S:Spec):List Nat:=R_ s (HI s S.slots++M7 s S.boxes)
def push (s s0:St) (o:List Nat) (S:Spec):Option St:=match jm s0.tm (S.slots.map (·.1)),jm s0.ob (S.boxes.map (·.1)),jm s0.tm S.cw with
 |true,true,true=>some ⟨bK s.tm (S.slots.map (·.1)) (eG S.cw .e)::s0.tm,bK s.ob (S.boxes.map (·.1)++o) .e::s0.ob,s0.next⟩
 |_,_,_=>none
def aq {R:Type} (x:Option (List PV ⊕ R)) (k:List PV→Option R):Option R:=match x with
 |none=>none
 |some (.inl ρ)=>k ρ
 |some (.inr r)=>some r
def rounds {R:Type} (f:List PV→Option (List PV ⊕ R)):Nat→List PV→Option R
 |0,_=>none
 |n+1,ρ=>match f ρ with
  |none=>none
  |some (.inl ρ)=>rounds f n ρ
  |some (.inr r)=>some r
open Classical in
def iter {R:Type} (f:List PV→Option (List PV ⊕ R)) (ρ:List PV):Option R:=
 if h: ∃ r n,rounds f n ρ=some r then some h.choose else none
inductive Hint where
 |leaf
 |two (a b:Hint)
 |loop (S:Spec) (a:Hint)
 |meet (S:Spec) (a:Hint)
 |mD (S:Spec) (a:Hint)
 |any
def Hint.l:Hint→Hint
 | .two a _=>a
 |_=> .leaf
def Hint.r:Hint→Hint
 | .two _ b=>b
 |_=> .leaf
def DH {R:Type} (all:List Oper) (s:St) (g:Option (Nat×Bool)) (K:Bool→St→Option R):Option R:=match g with
 |none=>K true s
 |some (j,want)=>match all[j]? with
  |some o=>match o.dst with
   |some d=>match look s.tm d with
    |some (.bool b)=>match b with
     |true=>match put s.tm d (some (.bool true)) with
      |some tm=>K want {s with tm:=tm}
      |none=>none
     |false=>match put s.tm d (some (.bool false)) with
      |some tm=>K (!want) {s with tm:=tm}
      |none=>none
    |some (.pT _)=>K false s
    |_=>none
   |none=>none
  |none=>none
def M8 {R:Type} (nt:Nat) (dst:Option Nat) (v:AV) (s:St) (K:St→Option R):Option R:=match dst with
 |none=>K s
 |some d=>match Nat.blt d nt,put s.tm d (some v) with
  |true,some tm=>K {s with tm:=tm}
  |_,_=>none
abbrev bf:={R:Type}→AV→List AV→St→Nat→(AV→St→Option R)→Option R
def BC:bf:=fun _ _ _ _ _=>none
structure PC where
 q:bf
 rng:(bf→bf)→bf
def XW:Op→Option (TypeId×Operand×Bool)
 | .binOp .eql t x (.const (.slice none 0 0)) _=>some (t,x,true)
 | .binOp .neq t x (.const (.slice none 0 0)) _=>some (t,x,false)
 |_=>none
open Classical in
def eI {R:Type} (x y:Option R):Option R:=if x=y then x else none
theorem Ai {R:Type} (x:Option R):eI x x=x:=if_pos rfl
def HJ {R:Type} (l:List PV) (k:Bool→Option R):Option R:=match l with
 |[]=>eI (k true) (k false)
 |_::_=>k false
def XX:Bool→Bool→Bool
 |true,q=>q
 |false,true=>false
 |false,false=>true
def acv (s:St):Op→Option (TypeId×Nat×Int)
 | .load t x=>match aL s x with
  |some (.gp g off)=>some (t,g,off)
  |_=>none
 |_=>none
def PJ {R:Type} (s:St) (fr:Nat) (K:AV→St→Option R) (call:bf) (o:Op):Option R:=match XW o with
 |some (t,x,q)=>match aL s x,P.underlying t with
  |some (.list _ l),some (.slice _)=>HJ l fun b=>K (.bool (XX q b)) s
  |_,_=>cr P s fr K call o
 |none=>match acv s o with
  |some (t,g,off)=>call (.gp g off) [.int .i64 (t:Nat)] s fr K
  |none=>cr P s fr K call o
def Vc (call:bf) (all:List Oper) (nt fr:Nat) (o:Oper) {R:Type} (s:St) (K:St→Option R):Option R:=DH all s o.guard fun go s=>match go with
  |true=>PJ P s fr (fun v s=>M8 nt o.dst v s K) call o.op
  |false=>M8 nt o.dst (.pT []) s K
def aal (call:bf) (all:List Oper) (nt base:Nat) {R:Type}:Nat→List Oper→St→(St→Option R)→Option R
 |_,[],s,K=>K s
 |i,o::l,s,K=>Vc P call all nt (base+i) o s fun s=>aal call all nt base (i+1) l s K
def M9 (call:bf) (nt:Nat) (ops:List Oper) {R:Type} (s:St) (K:St→Option R):Option R:=
 xe s.next fun b=>aal P call ops nt b 0 ops {s with next:=b+ops.length} K
def ay {R:Type} (x:Option R):Option (List PV ⊕ R):=match x with
 |some r=>some (.inr r)
 |none=>none
abbrev DI:=Hint→St→(R:Type)→(Ex→St→Option R)→Option R
def FG {R:Type} (s0:St) (S:Spec) (K:Ex→St→Option R) (ex:Ex) (s:St):Option (List PV ⊕ R):=match ex with
 | .normal=>match flat P s S with
  |some (ρ,o)=>match dead s0.ob o with
   |true=>some (.inl ρ)
   |false=>none
  |none=>none
 |ex=>ay (K ex (pop s))
def XY (run:DI) (h:Hint) (s:St) (R:Type) (K:Ex→St→Option R):Option R:=match h with
 | .meet S g=>match drop (DG s S) s with
  |some s0=>match push s s0 (DG s S) S with
   |some s1=>aq (run g s1 _ (FG P s0 S K)) fun ρ=>match build P s0 S ρ with
    |some s2=>K .normal (pop s2)
    |none=>none
   |none=>none
  |none=>none
 |h=>run h s R K
def XZ {R:Type} (s0:St) (S:Spec) (K:Ex→St→Option R) (ex:Ex) (s:St):Option (List PV ⊕ R):=match ex with
 | .ret=>match flat P s S with
  |some (ρ,o)=>match dead s0.ob o with
   |true=>some (.inl ρ)
   |false=>none
  |none=>none
 |ex=>ay (K ex (pop s))
def X0 (run:DI) (h:Hint) (s:St) (R:Type) (K:Ex→St→Option R):Option R:=match h with
 | .mD S g=>match drop (DG s S) s with
  |some s0=>match push s s0 (DG s S) S with
   |some s1=>aq (run g s1 _ (XZ P s0 S K)) fun ρ=>match build P s0 S ρ with
    |some s2=>K .ret (pop s2)
    |none=>none
   |none=>none
  |none=>none
 |h=>run h s R K
def PK (run:DI):DI:=X0 P (XY P run)
def X1 (run:DI) (h:Hint) (s:St) (R:Type) (K:Ex→St→Option R):Option R:=match h with
 | .loop S g=>match flat P s S with
  |some (ρ,o)=>match drop o s with
   |some s0=>iter (fun ρ=>match build P s0 S ρ with
    |some s1=>run g s1 _ (FG P s0 S K)
    |none=>none) ρ
   |none=>none
  |none=>none
 |_=>none
def fY (s:St):List Nat→List Nat
 |[]=>[]
 |t::l=>match look s.tm t with
  |some v=>fF v++fY s l
  |none=>fY s l
def PL (s:St) (looks gP:List Nat):St:=⟨[bK s.tm looks .e],[bK s.ob gP .e],s.next⟩
def PM (ob:Lay AO):List Nat→Lay AO→Option (Lay AO)
 |[],l=>some l
 |i::is,l=>match put l i (look ob i) with
  |some l=>PM ob is l
  |none=>none
def alive (ob l:Lay AO):List Nat→Bool
 |[]=>true
 |i::is=>match look ob i with
  |none=>alive ob l is
  |some _=>match look l i with
   |some _=>alive ob l is
   |none=>false
def has (i:Nat):List Nat→Bool
 |[]=>false
 |j::l=>match Nat.beq i j with
  |true=>true
  |false=>has i l
def meets:List Nat→List Nat→Bool
 |[],_=>false
 |i::l,r=>match has i r with
  |true=>true
  |false=>meets l r
structure Rec where
 i:Nat
 gP:List Nat
 w:Bool
def either:Bool→Bool→Bool
 |true,_=>true
 |false,b=>b
def qQ (base:Nat) (f g:Rec):Bool:=match either f.w g.w with
 |true=>match meets f.gP g.gP with
  |true=>true
  |false=>either (has (base+f.i) g.gP) (has (base+g.i) f.gP)
 |false=>either (has (base+f.i) g.gP) (has (base+g.i) f.gP)
def waits (base mask:Nat) (g:Rec):List Rec→Bool
 |[]=>true
 |f::l=>match qQ base f g with
  |true=>match mask.testBit f.i with
   |true=>waits base mask g l
   |false=>false
  |false=>waits base mask g l
def Vd:List Oper→Bool
 |[]=>true
 |o::l=>match o.dst with
  |none=>Vd l
  |some d=>match (l.all fun q=>match q.dst with
    |none=>true
    |some e=> !Nat.beq d e) with
   |true=>Vd l
   |false=>false
def wb (fr:Nat) (f:Rec):List Nat:=match f.w with
 |true=>fr::f.gP
 |false=>[fr]
def yE (call:bf) (all:List Oper) (nt base:Nat) {R:Type}:List Sim.cZ→List Rec→St→(St→Option R)→Option R
 |[],_,s,K=>K s
 |f::l,rs,s,K=>DH all s f.o.guard fun go s=>match go with
  |true=>match waits base f.mask ⟨f.i,fY s f.looks,wr f.o.op⟩ rs with
   |true=>cr P (PL s f.looks (fY s f.looks)) (base+f.i) (fun v s'=>match PM s'.ob (wb (base+f.i) ⟨f.i,fY s f.looks,wr f.o.op⟩) s.ob,alive s'.ob s.ob (fY s f.looks) with
    |some ob,true=>M8 nt f.o.dst v {s with ob:=ob} fun s2=>yE call all nt base l (⟨f.i,fY s f.looks,wr f.o.op⟩::rs) s2 K
    |_,_=>none) call f.o.op
   |false=>none
  |false=>M8 nt f.o.dst (.pT []) s fun s=>yE call all nt base l rs s K
def T1 (call:bf) (nt base:Nat) (ops:List Oper) {R:Type} (s:St) (K:St→Option R):Option R:=match Sim.eO (Sim.bl P ops) (Sim.bl P ops),Vd ops with
 |true,true=>yE P call ops nt base (Sim.bl P ops) [] s K
 |_,_=>none
def PN (call pq:bf) (nt base:Nat):Nat→List Oper→{R:Type}→St→(St→Option R)→Option R
 |0,ops,_,s,K=>T1 P pq nt base ops s K
 |k+1,ops,_,s,K=>match Sim.XL ⟨ops⟩ with
  |some (A,z)=>PN call pq nt base k A s fun s1=>Vc P call ops nt (base+A.length) z s1 K
  |none=>T1 P pq nt base ops s K
def X2 (call pq:bf) (nt:Nat) (ops:List Oper) {R:Type} (s:St) (K:St→Option R):Option R:=
 xe s.next fun b=>PN P call pq nt b 12 ops {s with next:=b+ops.length} K
def BD (mask:Nat):List Nat→Bool
 |[]=>true
 |q::l=>match mask.testBit q with
  |true=>BD mask l
  |false=>false
def sJ (mask:Nat):Nat→List Oper→List (Nat×Oper)
 |_,[]=>[]
 |i,o::l=>match mask.testBit i with
  |true=>sJ mask (i+1) l
  |false=>match BD mask (Sim.bF o.after.toList) with
   |true=>(i,o)::sJ mask (i+1) l
   |false=>sJ mask (i+1) l
def Sa {α R:Type} (f:α→Option R):α→List α→Option R
 |x,[]=>f x
 |x,y::l=>eI (f x) (Sa f y l)
def HK (call:bf) (all:List Oper) (nt base:Nat) {R:Type}:Nat→Nat→St→(St→Option R)→Option R
 |0,mask,s,K=>match sJ mask 0 all with
  |[]=>K s
  |_::_=>none
 |n+1,mask,s,K=>match sJ mask 0 all with
  |[]=>K s
  |x::l=>Sa (fun x=>Vc P call all nt (base+x.1) x.2 s fun s=>HK call all nt base n (mask ||| (1 <<< x.1)) s K) x l
def acw (call:bf) (nt:Nat) (ops:List Oper) {R:Type} (s:St) (K:St→Option R):Option R:=
 xe s.next fun b=>HK P call ops nt b ops.length 0 {s with next:=b+ops.length} K
def T5:List Nat→List AV→Tr (Option AV)→Tr (Option AV)
 |p::ps,v::l,T=>T5 ps l (T.set p (some v))
 |_,_,T=>T
def acy:Ex→Option (List AV)
 | .normal=>some []
 | .ret=>some [.int .i64 0]
 | .exit j=>match Nat.blt j 1000000 with
  |true=>some [.int .i64 ((j+1:Nat):Int)]
  |false=>none
 |_=>none
def acz:List AV→Option Ex
 |[]=>some .normal
 |[.int _ n]=>match n with
  | .ofNat 0=>some .ret
  | .ofNat (j+1)=>some (.exit j)
  |_=>none
 |_=>none
def T6 (i nt:Nat) (ps:List Nat) (tm:Lay AV) (h:Hint) (ra rb:DI) (rest:bf):bf:=fun f l s fr K=>match f with
 | .vM j=>match Nat.beq i j,Nat.beq l.length ps.length,HH s.ob,By s i,put s.ob i none with
  |true,true,false,some ([],_),some BE=>xe s.next fun n0=>ra h.l ⟨T5 ps l .e::tm,BE,n0⟩ _ fun ex s1=>match ex with
   | .normal=>rb h.r s1 _ fun ex s2=>match acy ex with
    |some q=>match put s2.ob i (some (.box q none)) with
     |some ob=>K (.bool (HH q)) {s2 with tm:=s.tm,ob:=ob}
     |none=>none
    |none=>none
   |_=>none
  |_,_,_,_,_=>none
 |f=>rest f l s fr K
def lI (call:bf) (pc:PC) (nt:Nat):Code→DI
 | .skip=>fun _ s _ K=>K .normal s
 | .label _=>fun _ s _ K=>K .normal s
 | .ret=>fun _ s _ K=>K .ret s
 | .exit id=>fun _ s _ K=>K (.exit id) s
 | .region _ ops draw=>PK P fun h s _ K=>match draw with
  |false=>M9 P call nt ops.toList s fun s=>K .normal s
  |true=>match h with
   | .any=>acw P call nt ops.toList s fun s=>K .normal s
   |_=>X2 P call pc.q nt ops.toList s fun s=>K .normal s
 | .seq a b=>PK P fun h s R K=>lI call pc nt a h.l s R fun ex s=>match ex with
  | .normal=>lI call pc nt b h.r s R K
  |ex=>K ex s
 | .cond c a b=>PK P fun h s R K=>match aL s c with
  |some (.bool q)=>match q with
   |true=>lI call pc nt a h.l s R K
   |false=>lI call pc nt b h.r s R K
  |_=>none
 | .block id b=>PK P fun h s R K=>lI call pc nt b h.l s R fun ex s=>match ex with
  | .exit j=>match Nat.beq j id with
   |true=>K .normal s
   |false=>K (.exit j) s
  |ex=>K ex s
 | .loop b=>X1 P (lI call pc nt b)
 | .rangeFunc g ps a b=>fun h s R K=>match aL s g,Sim.nU a,Sim.nU b,Sim.De nt ps.toList with
  |some (.fn f cap),true,true,true=>xe s.next fun n0=>match put s.ob n0 (some (.box [] none)) with
   |some ob=>pc.rng (T6 n0 nt ps.toList s.tm h (lI call pc nt a) (lI call pc nt b)) (.fn f cap) [.vM n0] {s with ob:=ob,next:=n0+2} (n0+1) fun _ s'=>match By s' n0 with
    |some (q,_)=>match acz q with
     |some ex=>match put s'.ob n0 none with
      |some ob=>K ex {s' with tm:=s.tm,ob:=ob}
      |none=>none
     |none=>none
    |none=>none
   |none=>none
  |_,_,_,_=>none
 |_=>fun _ _ _ _=>none
end
end
end Go.Sy
namespace Go.Sy
open Go.Sim (Tr aV bM bA bL Ex)
noncomputable section
section
variable (P:Program)
def K8:List TypeId→List PV→Nat→Tr (Option AV)→Option (Tr (Option AV))
 |[],_,_,T=>some T
 |t::ts,ρ,k,T=>match PF P t (nth ρ k) with
  |some v=>K8 ts ρ (k+1) (T.set k (some v))
  |none=>none
def DJ (s:St):List ResultVar→Option (List AV)
 |[]=>some []
 | .tmp t::l=>match look s.tm t,DJ s l with
  |some v,some r=>some (v::r)
  |_,_=>none
 | .cell a t::l=>match look s.tm a with
  |some (.ptr i off)=>match By s i with
   |some (c,w)=>match K5 P t c w off,DJ s l with
    |some v,some r=>some (v::r)
    |_,_=>none
   |none=>none
  |_=>none
def fnK (call:bf) (aej:PC) (f:FuncId) (h:Hint) (ρ:List PV):Option (List PV):=match P.funcs[f]? with
 |some fn=>match fn.body,K8 P fn.params.toList ρ 0 .e,Nat.ble fn.params.toList.length fn.ntmps with
  |some c,some T,true=>lI P call aej fn.ntmps c h ⟨[T],[.e],0⟩ _ fun ex s=>match ex with
   | .goto _=>none
   | .exit _=>none
   |_=>match DJ P s fn.results.toList with
    |some vs=>match EF P s fn.resultTypes.toList vs with
     |some r=>match nodup (ij P fn.resultTypes.toList vs) with
      |true=>some r
      |false=>none
     |none=>none
    |none=>none
  |_,_,_=>none
 |none=>none
structure Con where
 f:FuncId
 params:List TypeId
 res:List TypeId
 F:List PV→Option (List PV)
def PO:List TypeId→List PV→Nat→Option (List AV)
 |[],_,_=>some []
 |t::ts,ρ,k=>match PF P t (nth ρ k),PO ts ρ (k+1) with
  |some v,some l=>some (v::l)
  |_,_=>none
def K9:List AV→AV
 |[v]=>v
 |vs=> .pT vs
def zj (t:TypeId):Bool:=(aI P t).all fun u=>match P.underlying u with
 |some (.slice _)=>false
 |_=>true
def BF (c:Con) (rest:bf):bf:=fun f l s fr K=>match f with
 | .fn g cap=>match Nat.beq g c.f with
  |true=>match EF P s c.params (l++cap),(match c.res.all (zj P) with
    |true=>some s
    |false=>drop (ij P c.params (l++cap)) s) with
   |some ρ,some s=>andThen (c.F ρ) fun ρ'=>match PO P c.res ρ' 0 with
    |some vs=>K (K9 vs) s
    |none=>none
   |_,_=>none
  |false=>rest f l s fr K
 |_=>rest f l s fr K
end
end
end Go.Sy
namespace Go.Sy
open Go.Sim (Tr aV bM bA bL)
variable {P:Program}
section
variable {α:Type}
theorem cN (t:Tr (Option α)) (l:Lay α) (k:Nat):look (t::l) k=match t.get k with
  |some r=>r
  |none=>look l k:=rfl
structure cR (a b:Lay α):Prop where
 ex:a=b∨ ∃ T T' l,a=T::l∧b=T'::l∧(∀ k,T.get k=none→T'.get k≠none→look l k=none)∧ ∀ k,T.get k≠none→T'.get k≠none
theorem cR.refl (a:Lay α):cR a a:=⟨.inl rfl⟩
theorem cR.trans {a b c:Lay α} (h:cR a b) (g:cR b c):cR a c:=by
 rcases h.ex with rfl|⟨T,T',l,rfl,rfl,h1,h2⟩
 ·exact g
 ·rcases g.ex with rfl|⟨U,U',l',e1,rfl,g1,g2⟩
  ·exact h
  ·cases e1
   refine ⟨.inr ⟨T,U',l,rfl,rfl,fun k hk hk'=> ?_,fun k hk=>g2 k (h2 k hk)⟩⟩;by_cases h3:T'.get k=none
   ·exact g1 k h3 hk'
   ·exact h1 k hk h3
theorem bX {a b:Lay α} {k:Nat} {v:Option α} (h:put a k v=some b):cR a b∧ ∀ j,look b j=if k=j then v else look a j:=by
 cases a with
 |nil=>cases h
 |cons T l=>
  simp only [put] at h;split at h
  ·rename_i hf
   cases h;refine ⟨⟨.inr ⟨T,T.set k v,l,rfl,rfl,fun j h1 h2=> ?_,fun j h1=> ?_⟩⟩,fun j=> ?_⟩
   ·rw [Tr.bn] at h2
    by_cases e:k=j
    ·subst e
     simp only [free,h1] at hf;split at hf
     ·assumption
     ·cases hf
    ·rw [if_neg e] at h2; exact absurd h1 h2
   ·rw [Tr.bn]
    by_cases e:k=j
    ·rw [if_pos e]; simp
    ·rw [if_neg e]; exact h1
   ·rw [cN,Tr.bn]
    by_cases e:k=j
    ·rw [if_pos e,if_pos e]
    ·rw [if_neg e,if_neg e]; rfl
  ·cases h
end
def JW (k:IntKind) (n:Int):Prop:=k.wrap n=n
def shaped (P:Program) (e:TypeId) (p:PV):Prop:=isAgg P e=true→ ∃ cs,p= .agg cs∧cs.length=(aI P e).length
inductive jM (P:Program) (w:World) (Z:Nat→Prop):TypeId→Value→PV→Prop
 |int {t:TypeId} {k:IntKind} {n:Int} (ht:P.underlying t=some (.int k)) (hn:JW k n):jM P w Z t (.int k n) (.int n)
 |bool {t:TypeId} {b:Bool} (ht:P.underlying t=some .bool):jM P w Z t (.bool b) (.bool b)
 |str {t:TypeId} {s:ByteArray} (ht:P.underlying t=some .string) (hs:s.size≤aN):jM P w Z t (.string s) (.str s)
 |nil {t e:TypeId} (ht:P.underlying t=some (.slice e)):jM P w Z t (.slice none 0 0) (.list [])
 |sl {t e:TypeId} {sp:Option Nat} {b off c:Nat} {l:List PV} (ht:P.underlying t=some (.slice e)) (hz:0<l.length→0<(aI P e).length→Z b) (hlen:l.length≤c) (hc:l.length≤aN) (hsz:aV P e=some (aI P e).length) (hsh: ∀ p∈l,shaped P e p) (u:Nat→Nat→Value)
   (hu: ∀ i j,i<l.length→j<(aI P e).length→w.cell? ⟨b,off+(i*(aI P e).length+j),none⟩=some (u i j))
   (hr: ∀ i j p t',l[i]? =some p→(aI P e)[j]? =some t'→jM P w Z t' (u i j) (cellAt P e p j)) (hsp:l≠[]→sp=none):jM P w Z t (.slice (some ⟨b,off,sp⟩) l.length c) (.list l)
structure fH (Z:Nat→Prop) (w w':World):Prop where
 os:w'.os=w.os
 tape:w'.tape=w.tape
 output:w'.output=w.output
 size:w.heap.size≤w'.heap.size
 heap: ∀ b,Z b→w'.heap[b]? =w.heap[b]?
theorem fH.refl (Z:Nat→Prop) (w:World):fH Z w w:=⟨rfl,rfl,rfl,Nat.le_refl _,fun _ _=>rfl⟩
theorem fH.trans {Z Z':Nat→Prop} {a b c:World} (h:fH Z a b) (g:fH Z' b c) (hz: ∀ b,Z b→Z' b):fH Z a c:=
 ⟨g.os.trans h.os,g.tape.trans h.tape,g.output.trans h.output,Nat.le_trans h.size g.size,fun x hx=>(g.heap x (hz x hx)).trans (h.heap x hx)⟩
theorem fH.drew (Z:Nat→Prop) (w:World):fH Z w {w with drawn:=w.drawn+1}:=⟨rfl,rfl,rfl,Nat.le_refl _,fun _ _=>rfl⟩
theorem yF {w w':World} {b:Nat} (h:w'.heap[b]? =w.heap[b]?) (k:Nat):w'.cell? ⟨b,k,none⟩=w.cell? ⟨b,k,none⟩:=by simp only [World.cell?,h]
theorem jM.mono {w w':World} {Z Z':Nat→Prop} {t:TypeId} {v:Value} {p:PV} (h:jM P w Z t v p) (hw: ∀ b,Z b→w'.heap[b]? =w.heap[b]?) (hz: ∀ b,Z b→Z' b):jM P w' Z' t v p:=by
 induction h with
 |int ht hn=>exact .int ht hn
 |bool ht=>exact .bool ht
 |str ht hs=>exact .str ht hs
 |nil ht=>exact .nil ht
 |sl ht hb hlen hc hsz hsh u hu hr hsp ih=>exact .sl ht (fun h1 h2=>hz _ (hb h1 h2)) hlen hc hsz hsh u (fun i j h1 h2=>by rw [yF (hw _ (hb (by omega) (by omega)))]; exact hu i j h1 h2) (fun i j p t' h1 h2=>ih i j p t' h1 h2) hsp
theorem jM.one {w:World} {Z:Nat→Prop} {t:TypeId} {v:Value} {p:PV} (h:jM P w Z t v p):v.oneCell'=true:=by cases h<;>rfl
theorem jM.ty {w:World} {Z:Nat→Prop} {t t':TypeId} {v:Value} {p:PV} (h:jM P w Z t v p) (ht:P.underlying t'=P.underlying t):jM P w Z t' v p:=by
 cases h with
 |int h1 h2=>exact .int (ht.trans h1) h2
 |bool h1=>exact .bool (ht.trans h1)
 |str h1 h2=>exact .str (ht.trans h1) h2
 |nil h1=>exact .nil (ht.trans h1)
 |sl h1 h2 h3 h4 h5 h6 u h7 h8 h9=>exact .sl (ht.trans h1) h2 h3 h4 h5 h6 u h7 h8 h9
def cu (P:Program) (w:World) (Z:Nat→Prop) (t:TypeId) (v:Value) (p:PV):Prop:=match isAgg P t with
 |true=> ∃ vs ps,v= .agg ⟨vs⟩∧p= .agg ps∧vs.length=(aI P t).length∧ps.length=(aI P t).length∧ ∀ (j:Nat) (t':TypeId) (x:Value) (q:PV),(aI P t)[j]? =some t'→vs[j]? =some x→ps[j]? =some q→jM P w Z t' x q
 |false=>jM P w Z t v p
theorem cu.mono {w w':World} {Z Z':Nat→Prop} {t:TypeId} {v:Value} {p:PV} (h:cu P w Z t v p) (hw: ∀ b,Z b→w'.heap[b]? =w.heap[b]?) (hz: ∀ b,Z b→Z' b):cu P w' Z' t v p:=by
 unfold cu at*;cases hq:isAgg P t with
 |true=>
  rw [hq] at h;obtain ⟨vs,ps,h1,h2,h3,h4,h5⟩:=h;exact ⟨vs,ps,h1,h2,h3,h4,fun j t' x q a b c=>(h5 j t' x q a b c).mono hw hz⟩
 |false=>rw [hq] at h; exact jM.mono h hw hz
inductive Pl where
 |box (b:Nat)
 |row (a:Option (Nat×Nat)) (n c:Nat)
 |mp (b:Nat)
 |lp (b:Nat) (rc:Loop)
def Pl.HL:Pl→Bool
 | .row _ _ _=>true
 | .mp _=>true
 |_=>false
abbrev Mp:=Nat→Option Pl
def Mp.up (m:Mp) (i:Nat) (p:Pl):Mp:=fun j=>if j=i then some p else m j
def addrOf (a:Option (Nat×Nat)):Option Addr:=a.map fun p=>⟨p.1,p.2,none⟩
def acA:Pl→Value→Prop
 | .row a n c,v=>v= .slice (addrOf a) n c
 | .mp b,v=>v= .map (some b)
 | .box _,_=>False
 | .lp _ _,_=>False
def N_:Int→Option Code
 | .ofNat 0=>some .ret
 | .ofNat (j+1)=>some (.exit j)
 |_=>none
def K_ (rc:Loop):List Value→Option Loop
 |[]=>some {rc with state:= .ready,pending:=none}
 |[.int _ n]=>match N_ n with
  |some c=>some {rc with state:= .done,pending:=some c}
  |none=>none
 |_=>none
def acB:Value→Bool
 | .agg _=>false
 |_=>true
mutual
def bD (P:Program) (m:Mp) (w:World) (Z:Nat→Prop):AV→Value→Prop
 | .int k n,v=>v= .int k n∧JW k n
 | .bool b,v=>v= .bool b
 | .str s,v=>v= .string s∧s.size≤aN
 | .list e l,v=> ∃ t,P.underlying t=some (.slice e)∧jM P w Z t v (.list l)
 | .own i,v=> ∃ p,m i=some p∧acA p v
 | .ptr i off,v=> ∃ b,m i=some (.box b)∧v= .pointer (some ⟨b,off,none⟩)
 | .sG e l k off,v=> ∃ t b o c,P.underlying t=some (.slice e)∧jM P w Z t (.slice (some ⟨b,o,none⟩) l.length c) (.list l)∧0≤k∧k<l.length∧v= .pointer (some ⟨b,o+(k.toNat*(aI P e).length+off),none⟩)
 | .nZ i e k off,v=> ∃ b o n c,m i=some (.row (some (b,o)) n c)∧0≤k∧k<n∧v= .pointer (some ⟨b,o+(k.toNat*(aI P e).length+off),none⟩)
 | .agg l wh,v=> ∃ vs,v= .agg ⟨vs⟩∧bu P m w Z l vs∧ ∀ t p,wh=some (t,p)→isAgg P t=true∧cu P w Z t v p
 | .pT l,v=> ∃ vs,v= .tuple ⟨vs⟩∧bu P m w Z l vs
 | .fn f c,v=> ∃ vs,v= .func (.func f) #[] ⟨vs⟩∧bu P m w Z c vs
 | .wA c,v=>v=c∧bL c=true∧acB c=true
 | .vM i,v=> ∃ b rc,m i=some (.lp b rc)∧v= .func (.yield b) #[] #[]
 | .gp g off,v=>v= .pointer (some ⟨g,off.toNat,none⟩)∧0≤off
def bu (P:Program) (m:Mp) (w:World) (Z:Nat→Prop):List AV→List Value→Prop
 |[],[]=>True
 |a::l,v::vs=>bD P m w Z a v∧bu P m w Z l vs
 |_,_=>False
end
def Ext (m m':Mp):Prop:= ∀ i p,m i=some p→m' i=some p
theorem Ext.refl (m:Mp):Ext m m:=fun _ _ h=>h
theorem Ext.trans {a b c:Mp} (h:Ext a b) (g:Ext b c):Ext a c:=fun i p hp=>g i p (h i p hp)
theorem Ext.up {m:Mp} {i:Nat} (h:m i=none) (p:Pl):Ext m (m.up i p):=fun j q hq=>by
 unfold Mp.up;by_cases e:j=i
 ·subst e; rw [h] at hq; cases hq
 ·rw [if_neg e]; exact hq
mutual
theorem j7 {m m':Mp} {w w':World} {Z Z':Nat→Prop} (he:Ext m m') (hw: ∀ b,Z b→w'.heap[b]? =w.heap[b]?) (hz: ∀ b,Z b→Z' b): ∀ (a:AV) (v:Value),bD P m w Z a v→bD P m' w' Z' a v
 | .int k n,v,h=>h
 | .bool b,v,h=>h
 | .str s,v,h=>h
 | .list e l,v,h=>by obtain ⟨t,h1,h2⟩:=h; exact ⟨t,h1,h2.mono hw hz⟩
 | .own i,v,h=>by obtain ⟨p,h1,h2⟩:=h; exact ⟨p,he _ _ h1,h2⟩
 | .ptr i off,v,h=>by obtain ⟨b,h1,h2⟩:=h; exact ⟨b,he _ _ h1,h2⟩
 | .sG e l k off,v,h=>by obtain ⟨t,b,o,c,h1,h2,h3⟩:=h; exact ⟨t,b,o,c,h1,h2.mono hw hz,h3⟩
 | .nZ i e k off,v,h=>by obtain ⟨b,o,n,c,h1,h2⟩:=h; exact ⟨b,o,n,c,he _ _ h1,h2⟩
 | .agg l wh,v,h=>by obtain ⟨vs,h1,h2,h3⟩:=h; exact ⟨vs,h1,d_ he hw hz l vs h2,fun t p e=>⟨(h3 t p e).1,(h3 t p e).2.mono hw hz⟩⟩
 | .pT l,v,h=>by obtain ⟨vs,h1,h2⟩:=h; exact ⟨vs,h1,d_ he hw hz l vs h2⟩
 | .fn f c,v,h=>by obtain ⟨vs,h1,h2⟩:=h; exact ⟨vs,h1,d_ he hw hz c vs h2⟩
 | .wA c,v,h=>h
 | .vM i,v,h=>by obtain ⟨b,rc,h1,h2⟩:=h; exact ⟨b,rc,he _ _ h1,h2⟩
 | .gp g off,v,h=>h
theorem d_ {m m':Mp} {w w':World} {Z Z':Nat→Prop} (he:Ext m m') (hw: ∀ b,Z b→w'.heap[b]? =w.heap[b]?) (hz: ∀ b,Z b→Z' b): ∀ (l:List AV) (vs:List Value),bu P m w Z l vs→bu P m' w' Z' l vs
 |[],[],_=>trivial
 |a::l,v::vs,h=>⟨j7 he hw hz a v h.1,d_ he hw hz l vs h.2⟩
 |[],_::_,h=>h.elim
 |_::_,[],h=>h.elim
end
theorem ct {m:Mp} {w:World} {Z:Nat→Prop}: ∀ {l:List AV} {vs:List Value},bu P m w Z l vs→l.length=vs.length
 |[],[],_=>rfl
 |a::l,v::vs,h=>by simp [ct h.2]
 |[],_::_,h=>h.elim
 |_::_,[],h=>h.elim
theorem pU {m:Mp} {w:World} {Z:Nat→Prop}: ∀ {l:List AV} {vs:List Value},bu P m w Z l vs→ ∀ (i:Nat) (a:AV),l[i]? =some a→ ∃ v,vs[i]? =some v∧bD P m w Z a v
 |[],[],_,i,a,hi=>by simp at hi
 |a::l,v::vs,h,i,b,hi=>by
  cases i with
  |zero=>simp at hi; subst hi; exact ⟨v,rfl,h.1⟩
  |succ i=>simp at hi; exact pU h.2 i b hi
 |[],_::_,h,_,_,_=>h.elim
 |_::_,[],h,_,_,_=>h.elim
theorem uQ {m:Mp} {w:World} {Z:Nat→Prop}: ∀ {l:List AV} {vs:List Value},l.length=vs.length→(∀ (i:Nat) a v,l[i]? =some a→vs[i]? =some v→bD P m w Z a v)→bu P m w Z l vs
 |[],[],_,_=>trivial
 |a::l,v::vs,hl,h=>⟨h 0 a v rfl rfl,uQ (by simpa using hl) fun i a v h1 h2=>h (i+1) a v (by simpa using h1) (by simpa using h2)⟩
 |[],_::_,hl,_=>by simp at hl
 |_::_,[],hl,_=>by simp at hl
theorem gm {m:Mp} {w:World} {Z:Nat→Prop}: ∀ {a b:List AV} {x y:List Value},bu P m w Z a x→bu P m w Z b y→bu P m w Z (a++b) (x++y)
 |[],b,[],y,_,h=>h
 |v::a,b,u::x,y,h,g=>⟨h.1,gm h.2 g⟩
 |[],_,_::_,_,h,_=>h.elim
 |_::_,_,[],_,h,_=>h.elim
theorem uR {m:Mp} {w:World} {Z:Nat→Prop} (n:Nat) {l:List AV} {vs:List Value} (h:bu P m w Z l vs):bu P m w Z (l.take n) (vs.take n):=
 uQ (by simp [ct h]) fun i a v h1 h2=>by
  rw [List.getElem?_take] at h1 h2;split at h1
  ·rename_i hi
   rw [if_pos hi] at h2;obtain ⟨u,h3,h4⟩:=pU h i a h1;rw [h3] at h2; cases h2; exact h4
  ·cases h1
theorem uS {m:Mp} {w:World} {Z:Nat→Prop} (n:Nat) {l:List AV} {vs:List Value} (h:bu P m w Z l vs):bu P m w Z (l.drop n) (vs.drop n):=
 uQ (by simp [ct h]) fun i a v h1 h2=>by
  rw [List.getElem?_drop] at h1 h2;obtain ⟨u,h3,h4⟩:=pU h _ a h1;rw [h3] at h2; cases h2; exact h4
def soft (n:Nat) (fr:Nat×Nat):Prop:= ∀ k,k<n→(fr.1≤k&&k<fr.2)=false
def HM (P:Program) (w:World) (Z:Nat→Prop) (e:TypeId) (l:List PV) (a:Option (Nat×Nat)) (c:Nat):Prop:=
 (a=none∧l=[]∧c=0)∨ ∃ b o,a=some (b,o)∧ ¬ Z b∧ ∃ cc ty fr,w.heap[b]? =some (.cells cc ty fr)∧soft cc.size fr∧aV P e=some (aI P e).length∧o+c*(aI P e).length≤cc.size∧l.length≤c∧l.length≤aN∧(∀ p∈l,shaped P e p)∧
  ∀ i j p t',l[i]? =some p→(aI P e)[j]? =some t'→ ∃ u,cc[o+(i*(aI P e).length+j)]? =some u∧jM P w Z t' u (cellAt P e p j)
def X3 (P:Program) (w:World) (Z:Nat→Prop) (k v:TypeId) (l:List PV) (b:Nat):Prop:=
 ¬ Z b∧ ∃ es clock,w.heap[b]? =some (.map es clock)∧es.toList.length=l.length∧ ∀ (i:Nat) (e:MapEntry) (p:PV),es.toList[i]? =some e→l[i]? =some p→cu P w Z k e.key (aj p 0)∧cu P w Z v e.val (aj p 1)
def aek (P:Program) (m:Mp) (w:World) (Z:Nat→Prop) (i:Nat) (l:List AV) (wh:Option (TypeId×PV)):Prop:=
 ∃ b,m i=some (.box b)∧ ¬ Z b∧ ∃ cc ty fr,w.heap[b]? =some (.cells cc ty fr)∧soft cc.size fr∧bu P m w Z l cc.toList∧ ∀ t p,wh=some (t,p)→isAgg P t=true∧cu P w Z t (.agg cc) p
def LpR (P:Program) (m:Mp) (w:World) (Z:Nat→Prop) (i:Nat) (l:List AV) (wh:Option (TypeId×PV)):Prop:=
 ∃ b rc q us,m i=some (.lp b rc)∧ ¬ Z b∧wh=none∧bu P m w Z l us∧K_ rc us=some q∧w.heap[b]? =some (.loop q)
def gZ (P:Program) (m:Mp) (w:World) (Z:Nat→Prop) (i:Nat):AO→Prop
 | .box l wh=>aek P m w Z i l wh∨LpR P m w Z i l wh
 | .row e l=> ∃ a c,m i=some (.row a l.length c)∧HM P w Z e l a c
 | .mp t l=> ∃ b k v,m i=some (.mp b)∧P.underlying t=some (.map k v)∧X3 P w Z k v l b
def af:Pl→Option Nat
 | .box b=>some b
 | .row a _ _=>a.map (·.1)
 | .mp b=>some b
 | .lp b _=>some b
theorem M_ {m:Mp} {w:World} {Z:Nat→Prop} {i b:Nat} {l:List AV} {wh:Option (TypeId×PV)} (h:gZ P m w Z i (.box l wh)) (hm:m i=some (.box b)):aek P m w Z i l wh:=by
 rcases h with h|⟨b',rc,q,us,h1,_⟩
 ·exact h
 ·rw [hm] at h1; cases h1
theorem qW {m:Mp} {w:World} {Z:Nat→Prop} {i:Nat} {v:Value} {a:Option (Nat×Nat)} {n c:Nat} (h:bD P m w Z (.own i) v) (hm:m i=some (.row a n c)):v= .slice (addrOf a) n c:=by
 obtain ⟨p,h1,h2⟩:=h;rw [hm] at h1;cases h1;exact h2
theorem acC {m:Mp} {w:World} {Z:Nat→Prop} {i:Nat} {v:Value} {b:Nat} (h:bD P m w Z (.own i) v) (hm:m i=some (.mp b)):v= .map (some b):=by
 obtain ⟨p,h1,h2⟩:=h;rw [hm] at h1;cases h1;exact h2
theorem X3.mono {w w':World} {Z Z':Nat→Prop} {k v:TypeId} {l:List PV} {b:Nat} (h:X3 P w Z k v l b) (hw: ∀ b,Z b→w'.heap[b]? =w.heap[b]?) (hz: ∀ b,Z b→Z' b) (hb:w'.heap[b]? =w.heap[b]? ∧(¬ Z b→ ¬ Z' b)):X3 P w' Z' k v l b:=by
 obtain ⟨h1,es,ck,h2,h3,h4⟩:=h;exact ⟨hb.2 h1,es,ck,hb.1.trans h2,h3,fun i e p a b=>⟨(h4 i e p a b).1.mono hw hz,(h4 i e p a b).2.mono hw hz⟩⟩
structure Rel (P:Program) (m:Mp) (Z:Nat→Prop) (ob:Lay AO) (w:World):Prop where
 zb: ∀ b,Z b→b<w.heap.size
 obj: ∀ i o,look ob i=some o→gZ P m w Z i o
 inj: ∀ i j o o' p q b,look ob i=some o→look ob j=some o'→m i=some p→m j=some q→af p=some b→af q=some b→i=j
structure bU (P:Program) (m:Mp) (w:World) (Z:Nat→Prop) (nt:Nat) (tm:Lay AV) (a:Array Value):Prop where
 size:a.size=nt
 get: ∀ t v,look tm t=some v→ ∃ v',a[t]? =some v'∧bD P m w Z v v'
theorem bU.mono {m m':Mp} {w w':World} {Z Z':Nat→Prop} {nt:Nat} {tm:Lay AV} {a:Array Value} (h:bU P m w Z nt tm a) (he:Ext m m') (hw: ∀ b,Z b→w'.heap[b]? =w.heap[b]?) (hz: ∀ b,Z b→Z' b):bU P m' w' Z' nt tm a:=
 ⟨h.size,fun t v ht=>by obtain ⟨v',h1,h2⟩:=h.get t v ht; exact ⟨v',h1,j7 he hw hz _ _ h2⟩⟩
end Go.Sy
namespace Go.Sy
open Go.Sim (Tr aV bM bA bL br ef cx cY)
variable {P:Program}
theorem uT {t:TypeId} (h:bM P t=some true):isAgg P t=true:=by unfold isAgg; rw [h]
theorem PR {t:TypeId} (h:bM P t=some false):isAgg P t=false:=by unfold isAgg; rw [h]
theorem aam {t:TypeId} (h:isAgg P t=true):bM P t=some true:=by
 unfold isAgg at h;cases hq:bM P t with
 |none=>rw [hq] at h; cases h
 |some b=>rw [hq] at h; cases b<;>first|rfl|cases h
theorem eT {t:TypeId} (h:isAgg P t=false):aI P t=[t]:=by
 unfold aI dep;simp only [tys];unfold isAgg bM at h;split
 ·rename_i fs hu; rw [hu] at h; cases h
 ·rename_i n e hu; rw [hu] at h; cases h
 ·rfl
theorem uU {m:Mp} {w:World} {Z:Nat→Prop} {t:TypeId} {v:Value} {p:PV} {a:AV} (h:jM P w Z t v p) (e:Ag P t p=some a):bD P m w Z a v:=by
 unfold Ag at e;cases h with
 |int h1 h2=>rw [h1] at e; cases e; exact ⟨rfl,h2⟩
 |bool h1=>rw [h1] at e; cases e; rfl
 |str h1 h2=>rw [h1] at e; cases e; exact ⟨rfl,h2⟩
 |nil h1=>rw [h1] at e; cases e; exact ⟨t,h1, .nil h1⟩
 |sl h1 h2 h3 h4 h5 h6 u h7 h8 h9=>rw [h1] at e; cases e; exact ⟨t,h1, .sl h1 h2 h3 h4 h5 h6 u h7 h8 h9⟩
theorem BG {l:List PV} {i:Nat} {p:PV} (h:l[i]? =some p):aj (.agg l) i=p:=by simp [aj,PV.cells,h]
theorem zk {m:Mp} {w:World} {Z:Nat→Prop} {ps:List PV}: ∀ {ts:List TypeId} {j:Nat} {l:List AV} {vs:List Value},qU P (.agg ps) ts j=some l→vs.length=ts.length→
  (∀ i t v,ts[i]? =some t→vs[i]? =some v→ ∃ p,ps[j+i]? =some p∧jM P w Z t v p)→bu P m w Z l vs
 |[],j,l,vs,h,hl,hr=>by
  simp only [qU,Option.some.injEq] at h;subst h;cases vs with
  |nil=>trivial
  |cons v vs=>simp at hl
 |t::ts,j,l,vs,h,hl,hr=>by
  simp only [qU] at h;split at h
  ·rename_i a r h1 h2
   cases h;cases vs with
   |nil=>simp at hl
   |cons v vs=>
    obtain ⟨p,hp,Dy⟩:=hr 0 t v rfl rfl;rw [BG (by simpa using hp)] at h1;refine ⟨uU Dy h1,zk h2 (by simpa using hl) fun i t' v' a b=> ?_⟩;obtain ⟨q,hq,ael⟩:=hr (i+1) t' v' (by simpa using a) (by simpa using b);exact ⟨q,by rw [← hq]; congr 1; omega,ael⟩
  ·cases h
theorem PS: ∀ {a b:List TypeId},TV a b=true→a=b
 |[],[],_=>rfl
 |x::a,y::b,h=>by
  simp only [TV] at h;split at h
  ·rename_i hb; rw [br hb,PS h]
  ·cases h
 |[],_::_,h=>by cases h
 |_::_,[],h=>by cases h
theorem EI {w:World} {Z:Nat→Prop} {t t0:TypeId} {vs:List Value} {ps:List PV} {off n:Nat} (hq:isAgg P t=true) (hv:vs.length=(aI P t0).length) (hp:ps.length=(aI P t0).length)
  (hr: ∀ (j:Nat) (t':TypeId) (x:Value) (q:PV),(aI P t0)[j]? =some t'→vs[j]? =some x→ps[j]? =some q→jM P w Z t' x q) (hle:off+n≤vs.length) (hn:aV P t=some n) {u:TypeId} {p:PV} (e:TW P t t0 (.agg ps) off n=some (u,p)):
  isAgg P u=true∧cu P w Z u (.agg ⟨(vs.drop off).take n⟩) p:=by
 unfold TW at e;split at e
 ·rename_i h1 h2 h3
  cases e;have h1:=br h1;have h2:=br h2;have h3:=br h3;subst h1; subst h2; subst h3;refine ⟨hq, ?_⟩;unfold cu;rw [hq];exact ⟨vs,ps,by simp [← hv],rfl,hv,hp,hr⟩
 ·split at e
  ·rename_i hs
   cases e;have hs:=PS hs;refine ⟨hq, ?_⟩;unfold cu;rw [hq];have hlen:(aI P t).length=n:=by rw [hs]; simp; omega
   refine ⟨(vs.drop off).take n,(ps.drop off).take n,rfl,by simp [aJ,PV.cells],by simp; omega,by simp; omega, ?_⟩;intro j t' x q h1 h2 h3;rw [hs] at h1;rw [List.getElem?_take] at h1 h2 h3;split at h1
   ·rename_i hj
    rw [if_pos hj] at h2 h3;rw [List.getElem?_drop] at h1 h2 h3;exact hr _ _ _ _ h1 h2 h3
   ·cases h1
  ·cases e
theorem oX {m:Mp} {w:World} {Z:Nat→Prop} {t e:TypeId} {p:PV} {off:Nat} {a:AV} (h:sH P t e p off=some a) {vs:List Value} (hv:vs.length=(aI P e).length) (hsh:shaped P e p)
  (hr: ∀ j t' x,(aI P e)[j]? =some t'→vs[j]? =some x→jM P w Z t' x (cellAt P e p j)) {v:Value}
  (hval:v=match bM P t,aV P t with
   |some true,some n=> .agg ⟨(vs.drop off).take n⟩
   |_,_=>vs.getD off undef):bD P m w Z a v:=by
 unfold sH at h;split at h
 ·rename_i n hq hn
  split at h
  ·rename_i hle Ve
   have hle:=cx hle;obtain ⟨ps,rfl,hps⟩:=hsh Ve;split at h
   ·rename_i l hl
    cases h;rw [hq,hn] at hval;dsimp only at hval;subst hval;have hr': ∀ (j:Nat) (t':TypeId) (x:Value) (q:PV),(aI P e)[j]? =some t'→vs[j]? =some x→ps[j]? =some q→jM P w Z t' x q:=by
     intro j t' x q h1 h2 h3;have:=hr j t' x h1 h2;simp only [cellAt,Ve,BG h3] at this;exact this
    refine ⟨_,rfl,zk hl (by simp; omega) ?_, ?_⟩
    ·intro i t' x h1 h2
     rw [List.getElem?_take] at h1 h2;split at h1
     ·rename_i hi
      rw [if_pos hi] at h2;rw [List.getElem?_drop] at h1 h2;have hlt:off+i<ps.length:=by omega
      exact ⟨ps[off+i],by simp [hlt],hr' _ _ _ _ h1 h2 (by simp [hlt])⟩
     ·cases h1
    ·intro u q hu
     exact EI (uT hq) hv hps hr' (by omega) hn hu
   ·cases h
  ·cases h
 ·rename_i x hq hn
  split at h
  ·rename_i u hu
   rw [hq] at hval;dsimp only at hval;subst hval;have hlt:off<vs.length:=by
    rw [hv]; exact (List.getElem?_eq_some_iff.1 hu).1
   have:=hr off u vs[off] hu (by simp [hlt]);rw [List.getD_eq_getElem?_getD];simp only [hlt,List.getElem?_eq_getElem,Option.getD_some];exact uU this h
  ·cases h
 ·cases h
theorem pV {t:TypeId} (h:wide P t=true):aV P t=some (aI P t).length:=by
 unfold wide at h;split at h
 ·rename_i n hn; rw [hn,br h]
 ·cases h
theorem jN {m:Mp} {w:World} {Z:Nat→Prop} {t:TypeId} {v:Value} {p:PV} {a:AV} (h:cu P w Z t v p) (e:PF P t p=some a):bD P m w Z a v:=by
 unfold PF at e;split at e
 ·rename_i hw
  have hw:=pV hw;unfold cu at h;cases hq:isAgg P t with
  |true=>
   rw [hq] at h;obtain ⟨vs,ps,rfl,rfl,h3,h4,h5⟩:=h;refine oX e h3 (fun _=>⟨ps,rfl,h4⟩) (fun j t' x h1 h2=> ?_) ?_
   ·have hlt:j<ps.length:=by rw [h4]; exact (List.getElem?_eq_some_iff.1 h1).1
    have:=h5 j t' x ps[j] h1 h2 (by simp [hlt]);simp only [cellAt,hq];rw [BG (p:=ps[j]) (by simp [hlt])];exact this
   ·rw [aam hq,hw]
    dsimp only;rw [← h3]; simp
  |false=>
   rw [hq] at h;refine oX (vs:=[v]) e (by rw [eT hq]; rfl) (fun hh=>by rw [hq] at hh; cases hh) (fun j t' x h1 h2=> ?_) ?_
   ·rw [eT hq] at h1
    cases j with
    |zero=>simp at h1 h2; subst h1; subst h2; simp only [cellAt,hq]; exact h
    |succ j=>simp at h1
   ·unfold sH at e
    split at e
    ·rename_i HN _; rw [uT HN] at hq; cases hq
    ·rename_i HN _; rw [HN]; rfl
    ·cases e
 ·cases e
def Zo (m:Mp) (ids:List Nat) (Z:Nat→Prop):Nat→Prop:=fun b=>Z b∨ ∃ i∈ids, ∃ o n c,m i=some (.row (some (b,o)) n c)
theorem Zo.sub {m:Mp} {ids:List Nat} {Z:Nat→Prop} {b:Nat} (h:Z b):Zo m ids Z b:= .inl h
theorem Zo.more {m:Mp} {ids ids':List Nat} {Z:Nat→Prop} (h: ∀ i∈ids,i∈ids') {b:Nat} (hb:Zo m ids Z b):Zo m ids' Z b:=by
 rcases hb with hb|⟨i,hi,r⟩
 ·exact .inl hb
 ·exact .inr ⟨i,h i hi,r⟩
theorem Zo.old {m:Mp} {ids:List Nat} {Z:Nat→Prop} {ob:Lay AO} {w:World} (h: ∀ i∈ids, ∃ o,look ob i=some o) {b:Nat} (hb:Zo m ids Z b):Z b∨w.heap.size≤b∨ ∃ i o p,look ob i=some o∧m i=some p∧af p=some b:=by
 rcases hb with hb|⟨i,hi,o,n,c,hm⟩
 ·exact .inl hb
 ·obtain ⟨q,hq⟩:=h i hi
  exact .inr (.inr ⟨i,q,_,hq,hm,rfl⟩)
theorem dD {s:St} {i:Nat} {e:TypeId} {l:List PV} (h:rowOf s i=some (e,l)):look s.ob i=some (.row e l):=by
 unfold rowOf at h;split at h
 ·cases h; assumption
 ·cases h
theorem Aj {s:St} {i:Nat} {e:TypeId} {l:List PV} (h:mapOf s i=some (e,l)):look s.ob i=some (.mp e l):=by
 unfold mapOf at h;split at h
 ·cases h; assumption
 ·cases h
theorem gq {s:St} {i:Nat} {l:List AV} {wh:Option (TypeId×PV)} (h:By s i=some (l,wh)):look s.ob i=some (.box l wh):=by
 unfold By at h;split at h
 ·cases h; assumption
 ·cases h
theorem aan {m:Mp} {w:World} {Z:Nat→Prop} {i:Nat} {e t:TypeId} {l:List PV} (h:gZ P m w Z i (.row e l)) (ht:P.underlying t=some (.slice e)) {v:Value} (hv:bD P m w Z (.own i) v):jM P w (Zo m [i] Z) t v (.list l):=by
 obtain ⟨a,c,h1,h2⟩:=h;obtain rfl:=qW hv h1;rcases h2 with ⟨rfl,rfl,rfl⟩|⟨b,o,rfl,hz,cc,ty,fr,h4,h5,h6,h7,h8,h9,h10,h11⟩
 ·exact .nil ht
 ·refine .sl ht (fun _ _=> .inr ⟨i,List.mem_singleton.2 rfl,_,_,_,h1⟩) h8 h9 h6 h10 (fun i j=>cc.getD (o+(i*(aI P e).length+j)) undef) ?_ ?_ (fun _=>rfl)
  ·intro i j hi hj
   obtain ⟨u,hu,_⟩:=h11 i j l[i] ((aI P e)[j]) (by simp [hi]) (by simp [hj]);simp [World.cell?,h4,hu,Array.getD_eq_getD_getElem?]
  ·intro i j p t' hi hj
   obtain ⟨u,hu,hr⟩:=h11 i j p t' hi hj;rw [Array.getD_eq_getD_getElem?,hu];exact hr.mono (fun _ _=>rfl) (fun b hb=> .inl hb)
theorem BH {m:Mp} {w:World} {Z:Nat→Prop} {s:St} (r:Rel P m Z s.ob w) {t:TypeId} {a:AV} {p:PV} {v:Value} (hv:bD P m w Z a v) (e:toCell P s t a=some p):jM P w (Zo m (cW a) Z) t v p∧ ∀ i∈cW a, ∃ o,look s.ob i=some o:=by
 unfold toCell at e;split at e
 ·rename_i k k' n ht
  split at e
  ·rename_i hk; cases e
   obtain rfl:=of_decide_eq_true hk;obtain ⟨rfl,hn⟩:=hv;exact ⟨.int ht hn,fun i hi=>by simp [cW] at hi⟩
  ·cases e
 ·rename_i ht; cases e
  obtain rfl:=hv;exact ⟨.bool ht,fun i hi=>by simp [cW] at hi⟩
 ·rename_i ht; cases e
  obtain ⟨rfl,hn⟩:=hv;exact ⟨.str ht hn,fun i hi=>by simp [cW] at hi⟩
 ·rename_i e1 e' l ht
  split at e
  ·rename_i hb; cases e
   obtain rfl:=br hb;obtain ⟨t',h1,h2⟩:=hv;exact ⟨(h2.mono (fun _ _=>rfl) fun b hb=> .inl hb).ty (ht.trans h1.symm),fun i hi=>by simp [cW] at hi⟩
  ·cases e
 ·rename_i e1 i ht
  split at e
  ·rename_i e' l hrow
   split at e
   ·rename_i hb; cases e
    obtain rfl:=br hb;have ho:=dD hrow;exact ⟨aan (r.obj i _ ho) ht hv,fun j hj=>by simp [cW] at hj; subst hj; exact ⟨_,ho⟩⟩
   ·cases e
  ·cases e
 ·rename_i ht; cases e
  obtain ⟨rfl,_⟩:=hv;exact ⟨.nil ht,fun i hi=>by simp [cW] at hi⟩
 ·cases e
theorem sK {m:Mp} {w:World} {Z:Nat→Prop} {s:St} (r:Rel P m Z s.ob w): ∀ {ts:List TypeId} {l:List AV} {ps:List PV} {vs:List Value},bu P m w Z l vs→uN P s ts l=some ps→
  ts.length=vs.length∧ps.length=vs.length∧(∀ (j:Nat) (t:TypeId) (v:Value) (p:PV),ts[j]? =some t→vs[j]? =some v→ps[j]? =some p→jM P w (Zo m (cW.mG l) Z) t v p)∧ ∀ i∈cW.mG l, ∃ o,look s.ob i=some o
 |[],[],ps,vs,hv,e=>by
  simp only [uN,Option.some.injEq] at e;subst e;cases vs with
  |nil=>exact ⟨rfl,rfl,fun j t v p h=>by simp at h,fun i hi=>by simp [cW.mG] at hi⟩
  |cons v vs=>exact hv.elim
 |t::ts,a::l,ps,vs,hv,e=>by
  simp only [uN] at e;split at e
  ·rename_i p q h1 h2
   cases e;cases vs with
   |nil=>exact hv.elim
   |cons v vs=>
    obtain ⟨g1,g2⟩:=BH r hv.1 h1;obtain ⟨g3,g4,g5,g6⟩:=sK r hv.2 h2;refine ⟨by simp [g3],by simp [g4],fun j t' v' p' a b c=> ?_,fun i hi=> ?_⟩
    ·cases j with
     |zero=>
      simp at a b c; subst a; subst b; subst c;exact g1.mono (fun _ _=>rfl) fun b hb=>hb.more fun i hi=>by simp [cW.mG,hi]
     |succ j=>
      exact (g5 j t' v' p' (by simpa using a) (by simpa using b) (by simpa using c)).mono (fun _ _=>rfl) fun b hb=>hb.more fun i hi=>by simp [cW.mG,hi]
    ·simp only [cW.mG,List.mem_append] at hi
     rcases hi with hi|hi
     ·exact g2 i hi
     ·exact g6 i hi
  ·cases e
 |[],_::_,_,_,_,e=>by cases e
 |_::_,[],_,_,_,e=>by cases e
theorem jO {m:Mp} {w:World} {Z:Nat→Prop} {s:St} (r:Rel P m Z s.ob w) {t:TypeId} {a:AV} {p:PV} {v:Value} (hv:bD P m w Z a v) (e:M1 P s t a=some p):cu P w (Zo m (lH P t a) Z) t v p∧ ∀ i∈lH P t a, ∃ o,look s.ob i=some o:=by
 unfold M1 at e;unfold lH;split at e
 ·rename_i l wh hq
  obtain ⟨vs,rfl,hl,hw⟩:=hv;split at e
  ·rename_i q HN
   cases e;simp only [hq,HN];unfold MZ at HN;split at HN
   ·rename_i t' p'
    split at HN
    ·rename_i hb; cases HN
     obtain rfl:=br hb;exact ⟨(hw _ _ rfl).2.mono (fun _ _=>rfl) fun b hb=> .inl hb,fun i hi=>by simp at hi⟩
    ·cases HN
   ·cases HN
  ·rename_i HN
   split at e
   ·rename_i ps hps
    cases e;simp only [hq,HN];obtain ⟨g1,g2,g3,g4⟩:=sK r hl hps;refine ⟨?_,g4⟩;unfold cu;rw [uT hq];exact ⟨vs,ps,rfl,rfl,by omega,by omega,fun j t' x q a b c=>g3 j t' x q a b c⟩
   ·cases e
 ·rename_i hq
  obtain ⟨g1,g2⟩:=BH r hv e;simp only [hq];refine ⟨?_,g2⟩;unfold cu;rw [PR hq];exact g1
 ·cases e
theorem qX {m:Mp} {w:World} {Z:Nat→Prop} {s:St} (r:Rel P m Z s.ob w): ∀ {ts:List TypeId} {l:List AV} {ps:List PV} {vs:List Value},bu P m w Z l vs→EF P s ts l=some ps→
  ts.length=vs.length∧ps.length=vs.length∧(∀ (j:Nat) (t:TypeId) (v:Value) (p:PV),ts[j]? =some t→vs[j]? =some v→ps[j]? =some p→cu P w (Zo m (ij P ts l) Z) t v p)∧ ∀ i∈ij P ts l, ∃ o,look s.ob i=some o
 |[],[],ps,vs,hv,e=>by
  simp only [EF,Option.some.injEq] at e;subst e;cases vs with
  |nil=>exact ⟨rfl,rfl,fun j t v p h=>by simp at h,fun i hi=>by simp [ij] at hi⟩
  |cons v vs=>exact hv.elim
 |t::ts,a::l,ps,vs,hv,e=>by
  simp only [EF] at e;split at e
  ·rename_i p q h1 h2
   cases e;cases vs with
   |nil=>exact hv.elim
   |cons v vs=>
    obtain ⟨g1,g2⟩:=jO r hv.1 h1;obtain ⟨g3,g4,g5,g6⟩:=qX r hv.2 h2;refine ⟨by simp [g3],by simp [g4],fun j t' v' p' a b c=> ?_,fun i hi=> ?_⟩
    ·cases j with
     |zero=>
      simp at a b c; subst a; subst b; subst c;exact g1.mono (fun _ _=>rfl) fun b hb=>hb.more fun i hi=>by simp [ij,hi]
     |succ j=>
      exact (g5 j t' v' p' (by simpa using a) (by simpa using b) (by simpa using c)).mono (fun _ _=>rfl) fun b hb=>hb.more fun i hi=>by simp [ij,hi]
    ·simp only [ij,List.mem_append] at hi
     rcases hi with hi|hi
     ·exact g2 i hi
     ·exact g6 i hi
  ·cases e
 |[],_::_,_,_,_,e=>by cases e
 |_::_,[],_,_,_,e=>by cases e
theorem gZ.mono {m m':Mp} {w w':World} {Z Z':Nat→Prop} {i:Nat} {o:AO} (h:gZ P m w Z i o) (he:Ext m m') (hw: ∀ b,Z b→w'.heap[b]? =w.heap[b]?) (hz: ∀ b,Z b→Z' b)
  (hb: ∀ p b,m i=some p→af p=some b→w'.heap[b]? =w.heap[b]? ∧(¬ Z b→ ¬ Z' b)):gZ P m' w' Z' i o:=by
 cases o with
 |box l wh=>
  rcases h with ⟨b,h1,h2,cc,ty,fr,h3,h4,h5,h6⟩|⟨b,rc,q,us,h1,h2,h3,h6,h4,h5⟩
  ·obtain ⟨g1,g2⟩:=hb _ b h1 rfl
   exact .inl ⟨b,he _ _ h1,g2 h2,cc,ty,fr,by rw [g1]; exact h3,h4,d_ he hw hz _ _ h5,fun t p e=>⟨(h6 t p e).1,(h6 t p e).2.mono hw hz⟩⟩
  ·obtain ⟨g1,g2⟩:=hb _ b h1 rfl
   exact .inr ⟨b,rc,q,us,he _ _ h1,g2 h2,h3,d_ he hw hz _ _ h6,h4,by rw [g1]; exact h5⟩
 |row e l=>
  obtain ⟨a,c,h1,h2⟩:=h;refine ⟨a,c,he _ _ h1, ?_⟩;rcases h2 with h2|⟨b,o,rfl,Na,cc,ty,fr,h4,h5,h6,h7,h8,h9,h10,h11⟩
  ·exact .inl h2
  ·obtain ⟨g1,g2⟩:=hb _ b h1 rfl
   exact .inr ⟨b,o,rfl,g2 Na,cc,ty,fr,by rw [g1]; exact h4,h5,h6,h7,h8,h9,h10,fun i j p t' a b=>by
    obtain ⟨u,hu,hr⟩:=h11 i j p t' a b;exact ⟨u,hu,hr.mono hw hz⟩⟩
 |mp t l=>
  obtain ⟨b,k,v,h1,h2,h3⟩:=h;exact ⟨b,k,v,he _ _ h1,h2,h3.mono hw hz (hb _ b h1 rfl)⟩
theorem gZ.eC {m:Mp} {w:World} {Z:Nat→Prop} {i:Nat} {o:AO} (h:gZ P m w Z i o) {p:Pl} {b:Nat} (hp:m i=some p) (hb:af p=some b):b<w.heap.size∧ ¬ Z b:=by
 cases o with
 |box l wh=>
  rcases h with ⟨b',h1,h2,cc,ty,fr,h3,_⟩|⟨b',rc,q,us,h1,h2,_,_,_,h3⟩
  ·rw [h1] at hp; cases hp
   simp only [af,Option.some.injEq] at hb; subst hb;exact ⟨Sim.getElem?_lt' h3,h2⟩
  ·rw [h1] at hp; cases hp
   simp only [af,Option.some.injEq] at hb; subst hb;exact ⟨Sim.getElem?_lt' h3,h2⟩
 |row e l=>
  obtain ⟨a,c,h1,h2⟩:=h;rw [h1] at hp; cases hp;rcases h2 with ⟨rfl,_⟩|⟨b',o,rfl,Na,cc,ty,fr,h4,_⟩
  ·simp [af] at hb
  ·simp only [af,Option.map_some,Option.some.injEq] at hb; subst hb
   exact ⟨Sim.getElem?_lt' h4,Na⟩
 |mp t l=>
  obtain ⟨b',k,v,h1,h2,h3,es,ck,h4,_⟩:=h;rw [h1] at hp; cases hp;simp only [af,Option.some.injEq] at hb; subst hb;exact ⟨Sim.getElem?_lt' h4,h3⟩
theorem gZ.at {m:Mp} {w:World} {Z:Nat→Prop} {i:Nat} {o:AO} (h:gZ P m w Z i o): ∃ p,m i=some p:=by
 cases o with
 |box l wh=>rcases h with ⟨b,h1,_⟩|⟨b,rc,q,us,h1,_⟩<;>exact ⟨_,h1⟩
 |row e l=>obtain ⟨a,c,h1,_⟩:=h; exact ⟨_,h1⟩
 |mp t l=>obtain ⟨b,k,v,h1,_⟩:=h; exact ⟨_,h1⟩
theorem Rel.freeze {m:Mp} {w:World} {Z:Nat→Prop} {ob La:Lay AO} (r:Rel P m Z ob w) {ids:List Nat} (dW: ∀ i∈ids, ∃ o,look ob i=some o) (qY: ∀ j,look La j=if j∈ids then none else look ob j):Rel P m (Zo m ids Z) La w where
 zb:=fun b hb=>by
  rcases hb with hb|⟨i,hi,o,n,c,hm⟩
  ·exact r.zb b hb
  ·obtain ⟨ao,ho⟩:=dW i hi
   exact ((r.obj i ao ho).eC hm rfl).1
 obj:=fun j o hj=>by
  rw [qY] at hj;split at hj
  ·cases hj
  ·rename_i hn
   refine (r.obj j o hj).mono (Ext.refl m) (fun _ _=>rfl) (fun b hb=> .inl hb) fun p b hp hb=>⟨rfl,fun hz Na=> ?_⟩
   rcases Na with Na|⟨i,hi,o2,n,c,hm⟩
   ·exact hz Na
   ·obtain ⟨ao,ho⟩:=dW i hi
    have:=r.inj i j ao o _ p b ho hj hm hp rfl hb;exact hn (this ▸ hi)
 inj:=fun i j o o' p q b hi hj=>by
  rw [qY] at hi hj;split at hi
  ·cases hi
  ·split at hj
   ·cases hj
   ·exact r.inj i j o o' p q b hi hj
theorem iI: ∀ {ids:List Nat} {s s':St},drop ids s=some s'→s'.tm=s.tm∧s'.next=s.next∧cR s.ob s'.ob∧ ∀ j,look s'.ob j=if j∈ids then none else look s.ob j
 |[],s,s',h=>by simp only [drop,Option.some.injEq] at h; subst h; exact ⟨rfl,rfl, .refl _,fun j=>by simp⟩
 |i::ids,s,s',h=>by
  simp only [drop] at h;split at h
  ·rename_i ob ho
   obtain ⟨h1,h2⟩:=bX ho;obtain ⟨g1,g2,g3,g5⟩:=iI h;refine ⟨g1,g2,h1.trans g3,fun j=> ?_⟩;rw [g5 j,h2 j];by_cases e:i=j
   ·subst e; simp
   ·simp only [List.mem_cons]
    by_cases hj:j∈ids
    ·rw [if_pos hj,if_pos (.inr hj)]
    ·rw [if_neg hj,if_neg e,if_neg (fun h=>h.elim (fun h=>e h.symm) hj)]
  ·cases h
theorem Rel.drop {m:Mp} {w:World} {Z:Nat→Prop} {s s':St} (r:Rel P m Z s.ob w) {ids:List Nat} (dW: ∀ i∈ids, ∃ o,look s.ob i=some o) (h:Sy.drop ids s=some s'):Rel P m (Zo m ids Z) s'.ob w:=
 r.freeze dW (iI h).2.2.2
end Go.Sy
namespace Go.Sy
open Go.Sim (Tr aV bM bA bL br ef cx cY aW aD cJ bW aU cM)
variable {P:Program}
theorem wrap_wrap (k:IntKind) (n:Int):JW k (k.wrap n):=by
 unfold JW IntKind.wrap;cases k<;>simp only [IntKind.bits,IntKind.signed]<;>simp<;>(try split)<;>(try omega)<;>(repeat' split)<;>omega
theorem qZ {m:Mp} {w:World} {Z:Nat→Prop}: ∀ (v:Value) {a:AV},tB v=some a→bD P m w Z a v
 | .int k n,a,h=>by
  simp only [tB] at h;split at h
  ·rename_i hd; cases h; exact ⟨rfl,(of_decide_eq_true hd:k.wrap n=n)⟩
  ·cases h
 | .bool b,a,h=>by simp only [tB,Option.some.injEq] at h; subst h; rfl
 | .string s,a,h=>by
  simp only [tB] at h;split at h
  ·rename_i hd; cases h; exact ⟨rfl,cx hd⟩
  ·cases h
 | .agg ⟨l⟩,a,h=>by
  simp only [tB] at h;split at h
  ·rename_i l' hl; cases h; exact ⟨l,rfl,BJ l hl,fun t p e=>by cases e⟩
  ·cases h
 | .float _ _,a,h| .complex _ _ _,a,h| .pointer _,a,h| .slice _ _ _,a,h| .map _,a,h| .chan _,a,h| .func _ _ _,a,h| .nilFunc,a,h| .iface _ _,a,h| .nilIface,a,h| .tuple _,a,h=>by
  simp only [tB] at h;split at h
  ·rename_i hn; cases h; exact ⟨rfl,hn,rfl⟩
  ·cases h
 where BJ {m:Mp} {w:World} {Z:Nat→Prop}: ∀ (l:List Value) {as:List AV},tB.HC l=some as→bu P m w Z as l
 |[],as,h=>by simp only [tB.HC,Option.some.injEq] at h; subst h; trivial
 |v::l,as,h=>by
  simp only [tB.HC] at h;split at h
  ·rename_i a r h1 h2; cases h; exact ⟨qZ v h1,BJ l h2⟩
  ·cases h
section
variable {m:Mp} {Z:Nat→Prop} {w:World} {nt:Nat} {s:St} {a:Act}
theorem az (rt:bU P m w Z nt s.tm a.tmps) {x:Operand} {v:AV} (h:aL s x=some v):bD P m w Z v (a.eval x):=by
 cases x with
 |tmp t=>
  obtain ⟨v',h1,h2⟩:=rt.get t v h;simp only [Act.eval,Array.getD_eq_getD_getElem?,h1,Option.getD_some];exact h2
 |const c=>exact qZ c h
 |global g=>cases h; exact ⟨rfl,Int.le_refl 0⟩
 |func f=>
  simp only [aL,Option.some.injEq] at h;subst h;exact ⟨[],rfl,trivial⟩
theorem bR (rt:bU P m w Z nt s.tm a.tmps): ∀ {l:List Operand} {vs:List AV},cO s l=some vs→bu P m w Z vs (l.map a.eval)
 |[],vs,h=>by simp only [cO,Option.some.injEq] at h; subst h; trivial
 |x::l,vs,h=>by
  simp only [cO] at h;split at h
  ·rename_i v r h1 h2; cases h; exact ⟨az rt h1,bR rt h2⟩
  ·cases h
theorem aG {α R:Type} {x:Option α} {k:α→Option R} {r:R} (h:andThen x k=some r): ∃ y,x=some y∧k y=some r:=by
 unfold andThen at h;split at h
 ·exact ⟨_,rfl,h⟩
 ·cases h
theorem cC {R:Type} {b:Bool} {x:Option R} {r:R} (h:aC b x=some r):b=true∧x=some r:=by
 unfold aC at h;split at h
 ·exact ⟨rfl,h⟩
 ·cases h
def apart (m:Mp) (ob:Lay AO) (b:Nat):Prop:= ∀ i o p,look ob i=some o→m i=some p→af p≠some b
structure Mv (m m':Mp) (Z Z':Nat→Prop) (w w':World) (fr:Nat) (ob:Lay AO):Prop where
 ext:Ext m m'
 off: ∀ i,i≠fr→m' i=m i
 dF: ∀ b,Z b→Z' b
 keep:fH Z w w'
 frame: ∀ b,b<w.heap.size→apart m ob b→w'.heap[b]? =w.heap[b]?
 aem: ∀ b,Z' b→Z b∨w.heap.size≤b∨ ∃ i o p,look ob i=some o∧m i=some p∧af p=some b
 place: ∀ p b,m' fr=some p→af p=some b→m fr=some p∨w.heap.size≤b∨ ∃ i o q,look ob i=some o∧m i=some q∧af q=some b
theorem Mv.refl (m:Mp) (Z:Nat→Prop) (w:World) (fr:Nat) (ob:Lay AO):Mv m m Z Z w w fr ob:=⟨.refl m,fun _ _=>rfl,fun _ h=>h, .refl Z w,fun _ _ _=>rfl,fun _ h=> .inl h,fun _ _ h _=> .inl h⟩
def Fen (n0:Nat) (Z0:Nat→Prop) (m:Mp) (Z:Nat→Prop):Prop:=(∀ i p b,m i=some p→af p=some b→n0≤b)∧ ∀ b,Z b→Z0 b∨n0≤b
def iq (m m':Mp) (Z Z':Nat→Prop) (w w':World):Prop:= ∀ n0 Z0,n0≤w.heap.size→Fen n0 Z0 m Z→Fen n0 Z0 m' Z'∧ ∀ b:Nat,b<n0→w'.heap[b]? =w.heap[b]?
theorem iq.same (m:Mp) (Z:Nat→Prop) {w w':World} (h: ∀ b:Nat,w'.heap[b]? =w.heap[b]?):iq m m Z Z w w':=fun _ _ _ hf=>⟨hf,fun b _=>h b⟩
theorem iq.trans {m m1 m2:Mp} {Z Z1 Z2:Nat→Prop} {w w1 w2:World} (h:iq m m1 Z Z1 w w1) (hw:w.heap.size≤w1.heap.size) (g:iq m1 m2 Z1 Z2 w1 w2):iq m m2 Z Z2 w w2:=fun n0 Z0 hn hf=>by
 obtain ⟨h1,h2⟩:=h n0 Z0 hn hf;obtain ⟨h3,h4⟩:=g n0 Z0 (Nat.le_trans hn hw) h1;exact ⟨h3,fun b hb=>(h4 b hb).trans (h2 b hb)⟩
theorem Mv.Ak {m m':Mp} {Z Z':Nat→Prop} {w w':World} {fr:Nat} {ob:Lay AO} (h:Mv m m' Z Z' w w' fr ob):iq m m' Z Z' w w':=fun n0 Z0 hn hf=>⟨⟨fun i p b hi hb=>by
 by_cases e:i=fr
 ·subst e
  rcases h.place p b hi hb with h1|h1|⟨j,o,q,_,h2,h3⟩
  ·exact hf.1 _ _ _ h1 hb
  ·omega
  ·exact hf.1 _ _ _ h2 h3
 ·rw [h.off i e] at hi; exact hf.1 _ _ _ hi hb,fun b hb=>by
 rcases h.aem b hb with h1|h1|⟨j,o,q,_,h2,h3⟩
 ·exact hf.2 b h1
 ·exact .inr (by omega)
 ·exact .inr (hf.1 _ _ _ h2 h3)⟩,fun b hb=>h.frame b (by omega) fun i o p _ hp hbp=>by
 have:=hf.1 i p b hp hbp;omega⟩
def dh (P:Program) (m:Mp) (Z:Nat→Prop) (w:World) (s:St) (fr:Nat) (x:Result Next) (v:AV) (s':St):Prop:=
 ∃ m' Z' v' w',(x= .ok (.value v') w'∨(x= .ok .skip w'∧v'=undef))∧Mv m m' Z Z' w w' fr s.ob∧Rel P m' Z' s'.ob w'∧bD P m' w' Z' v v'∧s'.tm=s.tm∧s'.next=s.next∧cR s.ob s'.ob
theorem dh.quiet (r:Rel P m Z s.ob w) {fr:Nat} {x:Result Next} {v:AV} {v':Value} (hx:x= .ok (.value v') w) (hv:bD P m w Z v v'):dh P m Z w s fr x v s:=
 ⟨m,Z,v',w, .inl hx, .refl ..,r,hv,rfl,rfl, .refl _⟩
theorem dh.value (r:Rel P m Z s.ob w) {fr:Nat} {sem:Sem Value} {v:AV} {v':Value} (hx:sem.run P w= .ok v' w) (hv:bD P m w Z v v'):dh P m Z w s fr ((do pure (.value (← sem)):Sem Next).run P w) v s:=
 .quiet r (aU hx) hv
end
end Go.Sy
namespace Go.Sy
open Go.Sim (Tr aV bM bA bL)
variable {P:Program}
structure bY (w w':World):Prop where
 cc: ∀ (b:Nat) (cc:Array Value) (ty:TypeId) (fr:Nat×Nat),w.heap[b]? =some (Obj.cells cc ty fr)→w'.heap[b]? =some (Obj.cells cc ty fr)
 mp: ∀ (b:Nat) (es:Array MapEntry) (ck:Nat),w.heap[b]? =some (Obj.map es ck)→w'.heap[b]? =some (Obj.map es ck)
theorem bY.refl (w:World):bY w w:=⟨fun _ _ _ _ h=>h,fun _ _ _ h=>h⟩
theorem bY.trans {a b c:World} (h:bY a b) (g:bY b c):bY a c:=⟨fun x cc ty fr hx=>g.cc x cc ty fr (h.cc x cc ty fr hx),fun x es ck hx=>g.mp x es ck (h.mp x es ck hx)⟩
theorem HO {w:World} {b k:Nat} {v:Value} (h:w.cell? ⟨b,k,none⟩=some v): ∃ cc ty fr,w.heap[b]? =some (Obj.cells cc ty fr):=by
 unfold World.cell? at h;cases ho:w.heap[b]? with
 |none=>simp [ho] at h
 |some o=>cases o<;>simp_all
theorem bY.cell {w w':World} (hw:bY w w') {b k:Nat} {v:Value} (h:w.cell? ⟨b,k,none⟩=some v):w'.cell? ⟨b,k,none⟩=some v:=by
 obtain ⟨cc,ty,fr,h1⟩:=HO h;rw [yF ((hw.cc b cc ty fr h1).trans h1.symm)]; exact h
def uV (w:World) (Z Z':Nat→Prop):Prop:= ∀ b cc ty fr,Z b→w.heap[b]? =some (Obj.cells cc ty fr)→Z' b
theorem uV.refl (w:World) (Z:Nat→Prop):uV w Z Z:=fun _ _ _ _ h _=>h
theorem jM.other {w w':World} {Z Z':Nat→Prop} {t:TypeId} {v:Value} {p:PV} (h:jM P w Z t v p) (hw:bY w w') (hz:uV w Z Z'):jM P w' Z' t v p:=by
 induction h with
 |int ht hn=>exact .int ht hn
 |bool ht=>exact .bool ht
 |str ht hs=>exact .str ht hs
 |nil ht=>exact .nil ht
 |sl ht hb hlen hc hsz hsh u hu hr hsp ih=>
  refine .sl ht (fun h1 h2=> ?_) hlen hc hsz hsh u (fun i j h1 h2=>hw.cell (hu i j h1 h2)) (fun i j p t' h1 h2=>ih i j p t' h1 h2) hsp;obtain ⟨cc,ty,fr,h3⟩:=HO (hu 0 0 h1 h2);exact hz _ cc ty fr (hb h1 h2) h3
theorem cu.other {w w':World} {Z Z':Nat→Prop} {t:TypeId} {v:Value} {p:PV} (h:cu P w Z t v p) (hw:bY w w') (hz:uV w Z Z'):cu P w' Z' t v p:=by
 unfold cu at*;cases hq:isAgg P t with
 |true=>
  rw [hq] at h;obtain ⟨vs,ps,h1,h2,h3,h4,h5⟩:=h;exact ⟨vs,ps,h1,h2,h3,h4,fun j t' x q a b c=>(h5 j t' x q a b c).other hw hz⟩
 |false=>rw [hq] at h; exact jM.other h hw hz
mutual
theorem HP {m:Mp} {w w':World} {Z Z':Nat→Prop} (hw:bY w w') (hz:uV w Z Z'): ∀ (a:AV) (v:Value),bD P m w Z a v→bD P m w' Z' a v
 | .int k n,v,h=>h
 | .bool b,v,h=>h
 | .str s,v,h=>h
 | .list e l,v,h=>by obtain ⟨t,h1,h2⟩:=h; exact ⟨t,h1,h2.other hw hz⟩
 | .own i,v,h=>h
 | .ptr i off,v,h=>h
 | .sG e l k off,v,h=>by obtain ⟨t,b,o,c,h1,h2,h3⟩:=h; exact ⟨t,b,o,c,h1,h2.other hw hz,h3⟩
 | .nZ i e k off,v,h=>h
 | .agg l wh,v,h=>by obtain ⟨vs,h1,h2,h3⟩:=h; exact ⟨vs,h1,j8 hw hz l vs h2,fun t p e=>⟨(h3 t p e).1,(h3 t p e).2.other hw hz⟩⟩
 | .pT l,v,h=>by obtain ⟨vs,h1,h2⟩:=h; exact ⟨vs,h1,j8 hw hz l vs h2⟩
 | .fn f c,v,h=>by obtain ⟨vs,h1,h2⟩:=h; exact ⟨vs,h1,j8 hw hz c vs h2⟩
 | .wA c,v,h=>h
 | .vM i,v,h=>h
 | .gp g off,v,h=>h
theorem j8 {m:Mp} {w w':World} {Z Z':Nat→Prop} (hw:bY w w') (hz:uV w Z Z'): ∀ (l:List AV) (vs:List Value),bu P m w Z l vs→bu P m w' Z' l vs
 |[],[],_=>trivial
 |a::l,v::vs,h=>⟨HP hw hz a v h.1,j8 hw hz l vs h.2⟩
 |[],_::_,h=>h.elim
 |_::_,[],h=>h.elim
end
theorem gZ.other {m:Mp} {w w':World} {Z Z':Nat→Prop} (hw:bY w w') (hz:uV w Z Z') (OF: ∀ b,Z' b→Z b) {i:Nat} {o:AO} (h:gZ P m w Z i o) (hl: ∀ b rc q,m i=some (.lp b rc)→w.heap[b]? =some (Obj.loop q)→w'.heap[b]? =some (Obj.loop q)):gZ P m w' Z' i o:=by
 cases o with
 |box l wh=>
  rcases h with ⟨b,h1,h2,cc,ty,fr,h3,h4,h5,h6⟩|⟨b,rc,q,us,h1,h2,h3,h6,h4,h5⟩
  ·exact .inl ⟨b,h1,fun hb=>h2 (OF b hb),cc,ty,fr,hw.cc _ _ _ _ h3,h4,j8 hw hz _ _ h5,fun t p e=>⟨(h6 t p e).1,(h6 t p e).2.other hw hz⟩⟩
  ·exact .inr ⟨b,rc,q,us,h1,fun hb=>h2 (OF b hb),h3,j8 hw hz _ _ h6,h4,hl b rc q h1 h5⟩
 |row e l=>
  obtain ⟨a,c,h1,h2⟩:=h;refine ⟨a,c,h1, ?_⟩;rcases h2 with h2|⟨b,o,rfl,g1,cc,ty,fr,g2,g3,g4,g5,g6,g7,g8,g9⟩
  ·exact .inl h2
  ·refine .inr ⟨b,o,rfl,fun hb=>g1 (OF b hb),cc,ty,fr,hw.cc _ _ _ _ g2,g3,g4,g5,g6,g7,g8,fun i j p t' a b=> ?_⟩
   obtain ⟨u,k1,k2⟩:=g9 i j p t' a b;exact ⟨u,k1,k2.other hw hz⟩
 |mp t l=>
  obtain ⟨b,k,v,h1,h2,h3,es,ck,h4,h5,h6⟩:=h;exact ⟨b,k,v,h1,h2,fun hb=>h3 (OF b hb),es,ck,hw.mp _ _ _ h4,h5,fun i e p a c=>⟨(h6 i e p a c).1.other hw hz,(h6 i e p a c).2.other hw hz⟩⟩
theorem Rel.other {m:Mp} {w w':World} {Z Z':Nat→Prop} {ob:Lay AO} (h:Rel P m Z ob w) (hw:bY w w') (hz:uV w Z Z') (OF: ∀ b,Z' b→Z b) (hs:w.heap.size≤w'.heap.size) (hl: ∀ i o b rc q,look ob i=some o→m i=some (.lp b rc)→w.heap[b]? =some (Obj.loop q)→w'.heap[b]? =some (Obj.loop q)):Rel P m Z' ob w':=
 ⟨fun b hb=>Nat.lt_of_lt_of_le (h.zb b (OF b hb)) hs,fun i o hi=>(h.obj i o hi).other hw hz OF fun b rc q=>hl i o b rc q hi,h.inj⟩
theorem bU.other {m:Mp} {w w':World} {Z Z':Nat→Prop} {nt:Nat} {tm:Lay AV} {a:Array Value} (h:bU P m w Z nt tm a) (hw:bY w w') (hz:uV w Z Z'):bU P m w' Z' nt tm a:=
 ⟨h.size,fun t v ht=>by obtain ⟨v',h1,h2⟩:=h.get t v ht; exact ⟨v',h1,HP hw hz _ _ h2⟩⟩
theorem bY.putObj {w:World} {B:Nat} {o:Obj} (h: ∀ cc ty fr,w.heap[B]? ≠some (Obj.cells cc ty fr)) (h2: ∀ es ck,w.heap[B]? ≠some (Obj.map es ck)):bY w (w.putObj B o):=
 ⟨fun b cc ty fr hb=>by rw [World.putObj_heap_other (fun e:b=B=>h cc ty fr (e ▸ hb))]; exact hb,fun b es ck hb=>by rw [World.putObj_heap_other (fun e:b=B=>h2 es ck (e ▸ hb))]; exact hb⟩
abbrev n5:=Mp→(Nat→Prop)→World→Prop
def BK (I:n5):Prop:= ∀ {m m':Mp} {Z Z':Nat→Prop} {w w':World},I m Z w→Ext m m'→(∀ b,Z b→Z' b)→fH Z w w'→I m' Z' w'
abbrev gQ:=(Nat→Prop)→World→Prop
structure j9 (Gv:gQ):Prop where
 st: ∀ {Z Z':Nat→Prop} {w w':World},Gv Z w→(∀ b,Z b→Z' b)→fH Z w w'→Gv Z' w'
def gI (Gv:gQ):n5:=fun _ Z w=>Gv Z w
theorem q_ {Gv:gQ} (h:j9 Gv):BK (gI Gv):=fun h0 _ hz hk=>h.st h0 hz hk
def Has (Gv:gQ) (I:n5):Prop:= ∀ {m:Mp} {Z:Nat→Prop} {w:World},I m Z w→Gv Z w
theorem xg (Gv:gQ):Has Gv (gI Gv):=fun h=>h
end Go.Sy
namespace Go.Sy
open Go.Sim (Tr aV bM bA bL br ef cx cY aW aD cJ bW aU cM)
variable {P:Program}
theorem qi (b o j:Nat):Addr.add ⟨b,o,none⟩ j=⟨b,o+j,none⟩:=by
 unfold Addr.add;by_cases h:j=0
 ·subst h; rfl
 ·rw [if_neg h]
def tE (P:Program) (t:TypeId) (vs:List Value) (off:Nat):Value:=match bM P t,aV P t with
 |some true,some n=> .agg ⟨(vs.drop off).take n⟩
 |_,_=>vs.getD off undef
theorem BL {t:TypeId} {vs:List Value} {b o off:Nat} {w:World} (hc: ∀ j v,vs[j]? =some v→w.cell? ⟨b,o+j,none⟩=some v) (hq:bM P t=some true∧(∃ n,aV P t=some n∧off+n≤vs.length)∨bM P t=some false∧off<vs.length):
  (loadVar t ⟨b,o+off,none⟩).run P w= .ok (tE P t vs off) w:=by
 rcases hq with ⟨h1,n,h2,h3⟩|⟨h1,h2⟩
 ·have hl:((vs.drop off).take n).length=n:=by simp; omega
  have:=run_loadCells_list (P:=P) (w:=w) ⟨b,o+off,none⟩ ((vs.drop off).take n) (fun j v hj=>by
   rw [List.getElem?_take] at hj;split at hj
   ·rw [List.getElem?_drop] at hj
    rw [qi,Nat.add_assoc]; exact hc _ _ hj
   ·cases hj)
  rw [hl] at this;simp [loadVar,cJ h1,aW h2,this,tE,h1,h2]
 ·have h3:=hc off vs[off] (by simp [h2])
  simp [loadVar,cJ h1,h3,tE,h1,h2,List.getD_eq_getElem?_getD]
theorem xh {m:Mp} {w:World} {Z:Nat→Prop} {t:TypeId} {l:List AV} {wh:Option (TypeId×PV)} {off:Nat} {v:AV} {vs:List Value} (e:K5 P t l wh off=some v) (h:bu P m w Z l vs) (hw: ∀ t p,wh=some (t,p)→isAgg P t=true∧cu P w Z t (.agg ⟨vs⟩) p):
  bD P m w Z v (tE P t vs off)∧(bM P t=some true∧(∃ n,aV P t=some n∧off+n≤vs.length)∨bM P t=some false∧off<vs.length):=by
 have hl:=ct h;unfold K5 at e;split at e
 ·rename_i n hq hn
  split at e
  ·rename_i hle
   have hle:=cx hle;cases e;refine ⟨?_, .inl ⟨hq,n,hn,by omega⟩⟩;unfold tE;rw [hq,hn];refine ⟨_,rfl,uR n (uS off h),fun u p hu=> ?_⟩;split at hu
   ·rename_i t0 q
    obtain ⟨g1,g2⟩:=hw _ _ rfl;unfold cu at g2;rw [g1] at g2;obtain ⟨vs',ps,h1,h2,h3,h4,h5⟩:=g2;cases h1;subst h2;exact EI (uT hq) h3 h4 h5 (by omega) hn hu
   ·cases hu
  ·cases e
 ·rename_i hq
  have hlt:off<l.length:=(List.getElem?_eq_some_iff.1 e).1;obtain ⟨u,h1,h2⟩:=pU h off v e;refine ⟨?_, .inr ⟨hq,by omega⟩⟩;unfold tE;rw [hq];simp only [List.getD_eq_getElem?_getD,h1,Option.getD_some];exact h2
 ·cases e
section
variable {m:Mp} {Z:Nat→Prop} {w:World} {ob La:Lay AO}
theorem Rel.alloc (r:Rel P m Z ob w) {fr:Nat} (hm:m fr=none) {o:AO} {pl:Pl} {OC:Obj} (qY: ∀ j,look La j=if fr=j then some o else look ob j) (hb:af pl=some w.heap.size) (ho:gZ P (m.up fr pl) (w.alloc OC) Z fr o):
  Rel P (m.up fr pl) Z La (w.alloc OC) where
 zb:=fun b hb=>by have:=r.zb b hb; simp; omega
 obj:=fun j o' hj=>by
  rw [qY] at hj;by_cases e:fr=j
  ·rw [if_pos e] at hj; cases hj; subst e; exact ho
  ·rw [if_neg e] at hj
   have hjo:=r.obj j o' hj;refine hjo.mono (.up hm pl) (fun b hb=>RowKit.Below.heap_alloc _ _ _ (r.zb b hb)) (fun _ h=>h) fun p b hp hb=>⟨?_,fun h=>h⟩
   exact RowKit.Below.heap_alloc _ _ _ (hjo.eC hp hb).1
 inj:=fun i j o1 o2 p q b hi hj hp hq h1 h2=>by
  rw [qY] at hi hj;unfold Mp.up at hp hq;by_cases ei:fr=i
  ·by_cases ej:fr=j
   ·rw [← ei, ←ej]
   ·rw [if_neg ej] at hj
    rw [if_pos ei.symm] at hp;rw [if_neg (Ne.symm ej)] at hq;cases hp;rw [hb] at h1;cases h1;exact absurd ((r.obj j _ hj).eC hq h2).1 (Nat.lt_irrefl _)
  ·rw [if_neg ei] at hi
   rw [if_neg (Ne.symm ei)] at hp;by_cases ej:fr=j
   ·rw [if_pos ej.symm] at hq
    cases hq;rw [hb] at h2;cases h2;exact absurd ((r.obj i _ hi).eC hp h1).1 (Nat.lt_irrefl _)
   ·rw [if_neg ej] at hj
    rw [if_neg (Ne.symm ej)] at hq;exact r.inj i j o1 o2 p q b hi hj hp hq h1 h2
theorem yG (w:World) (o:Obj):(w.alloc o).heap[w.heap.size]? =some o:=by
 show (w.heap.push o)[w.heap.size]? =_
 simp
theorem fH.alloc (r:Rel P m Z ob w) (o:Obj):fH Z w (w.alloc o):=⟨rfl,rfl,rfl,by simp,fun b hb=>RowKit.Below.heap_alloc _ _ _ (r.zb b hb)⟩
theorem DK (n:Nat):soft n (0,0):=fun k _=>by simp
theorem Mp.bg (m:Mp) (i:Nat) (p:Pl):m.up i p i=some p:=if_pos rfl
theorem Mp.fR (m:Mp) {i j:Nat} (p:Pl) (h:j≠i):m.up i p j=m j:=if_neg h
theorem Rel.qg (r:Rel P m Z ob w) {fr:Nat} (hm:m fr=none) {l:List AV} {wh:Option (TypeId×PV)} {vs:List Value} {ty:TypeId} (qY: ∀ j,look La j=if fr=j then some (.box l wh) else look ob j) (h:bu P m w Z l vs)
  (hw: ∀ t p,wh=some (t,p)→isAgg P t=true∧cu P w Z t (.agg ⟨vs⟩) p):Rel P (m.up fr (.box w.heap.size)) Z La (w.alloc (.cells ⟨vs⟩ ty)):=by
 have hk:=fH.alloc r (.cells ⟨vs⟩ ty);refine r.alloc hm qY rfl <| .inl ⟨w.heap.size,Mp.bg ..,fun hz=>absurd (r.zb _ hz) (Nat.lt_irrefl _),⟨vs⟩,ty,(0,0),yG _ _,DK _,d_ (.up hm _) hk.heap (fun _ h=>h) _ _ h,fun t p e=>⟨(hw t p e).1,(hw t p e).2.mono hk.heap fun _ h=>h⟩⟩
theorem Rel.write (r:Rel P m Z ob w) {i b:Nat} {o o':AO} {p:Pl} {w':World} (hi:look ob i=some o) (hp:m i=some p) (hb:af p=some b) (qY: ∀ j,look La j=if i=j then some o' else look ob j)
  (hs:w.heap.size=w'.heap.size) (hh: ∀ q,q≠b→w'.heap[q]? =w.heap[q]?) (ho:gZ P m w' Z i o'):Rel P m Z La w' where
 zb:=fun b hb=>by have:=r.zb b hb; omega
 obj:=fun j o2 hj=>by
  rw [qY] at hj;by_cases e:i=j
  ·rw [if_pos e] at hj; cases hj; subst e; exact ho
  ·rw [if_neg e] at hj
   have hz:=((r.obj i o hi).eC hp hb).2;refine (r.obj j o2 hj).mono (.refl m) (fun c hc=>hh c fun e=>hz (e ▸ hc)) (fun _ h=>h) fun q c hq hc=>⟨hh c fun ec=> ?_,fun h=>h⟩
   subst ec;exact e (r.inj i j _ _ p q c hi hj hp hq hb hc)
 inj:=fun j k o1 o2 p1 q1 c hj hk h1 h2 h3 h4=>by
  rw [qY] at hj hk;have key: ∀ j o1,(if i=j then some o' else look ob j)=some o1→ ∃ o2,look ob j=some o2:=by
   intro j o1 h;by_cases e:i=j
   ·subst e; exact ⟨_,hi⟩
   ·rw [if_neg e] at h; exact ⟨_,h⟩
  obtain ⟨x,hx⟩:=key _ _ hj;obtain ⟨y,hy⟩:=key _ _ hk;exact r.inj j k x y p1 q1 c hx hy h1 h2 h3 h4
theorem Sb {cc:List Value} {k:Nat} {v:Value} {l:List Value} (h:k+(v::l).length≤cc.length):
  (cc.set k v).take (k+1)++l++(cc.set k v).drop (k+1+l.length)=cc.take k++(v::l)++cc.drop (k+(v::l).length):=by
 simp only [List.length_cons] at h;apply List.ext_getElem?;intro j;have h1:((cc.set k v).take (k+1)).length=k+1:=by simp; omega
 have h2:(cc.take k).length=k:=by simp; omega
 simp only [List.getElem?_append,List.length_append,h1,h2,List.length_cons];by_cases a:j<k
 ·rw [if_pos (by omega),if_pos (by omega),if_pos (by omega),if_pos a]
  simp [List.getElem?_take,List.getElem?_set,a,show j<k+1 by omega,show ¬ k=j by omega]
 ·by_cases b:j=k
  ·subst b
   rw [if_pos (by omega),if_pos (by omega),if_pos (by omega),if_neg (by omega)];simp [List.getElem?_take,List.getElem?_set,show j<cc.length by omega]
  ·by_cases c:j<k+1+l.length
   ·rw [if_pos (by omega),if_neg (by omega),if_pos (by omega),if_neg (by omega)]
    rw [show j - k=(j - (k+1))+1 by omega,List.getElem?_cons_succ]
   ·rw [if_neg (by omega),if_neg (by omega)]
    simp only [List.getElem?_drop,List.getElem?_set];rw [if_neg (by omega)]
    congr 1; omega
theorem lJ {b ty:Nat} {fr:Nat×Nat}: ∀ (l:List Value) (off n:Nat) (w:World) (cc:List Value),w.heap[b]? =some (.cells ⟨cc⟩ ty fr)→soft cc.length fr→off+n+l.length≤cc.length→(∀ v∈l,v.oneCell'=true)→
  ∃ w',(storeCells ⟨b,off,none⟩ l n).run P w= .ok () w'∧w'.heap[b]? =some (.cells ⟨cc.take (off+n)++l++cc.drop (off+n+l.length)⟩ ty fr)∧(∀ q,q≠b→w'.heap[q]? =w.heap[q]?)∧w.heap.size=w'.heap.size∧w'.os=w.os∧w'.tape=w.tape∧w'.output=w.output
 |[],off,n,w,cc,hh,hs,hle,ho=>⟨w,by simp [storeCells],by simp [hh],fun _ _=>rfl,rfl,rfl,rfl,rfl⟩
 |v::l,off,n,w,cc,hh,hs,hle,ho=>by
  simp only [List.length_cons] at hle;have hcell:w.cell? ⟨b,off+n,none⟩=some (cc[off+n]'(by omega)):=by simp [World.cell?,hh,show off+n<cc.length by omega]
  have hfr:w.frozen? ⟨b,off+n,none⟩=false:=by simp only [World.frozen?,hh]; exact hs _ (by omega)
  have Mk:(w.setCell ⟨b,off+n,none⟩ v).heap[b]? =some (.cells ⟨cc.set (off+n) v⟩ ty fr):=by simp [World.setCell,Array.getElem?_modify,hh]
  obtain ⟨w',h1,h2,h3,h4,h5,h6,h7⟩:=lJ l off (n+1) (w.setCell ⟨b,off+n,none⟩ v) (cc.set (off+n) v) Mk (by simpa using hs) (by simp; omega) (fun u hu=>ho u (List.mem_cons_of_mem _ hu));refine ⟨w', ?_, ?_,fun q hq=>(h3 q hq).trans (RowKit.Below.heap_setCell _ _ _ _ hq), ?_,h5,h6,h7⟩
  ·simp only [storeCells,Sem.run_bind,qi,run_store P w _ v .plain (ho v (List.mem_cons_self ..)),hcell,hfr,Result.andThen_ok,Bool.false_eq_true,if_false]
   exact h1
  ·rw [h2]
   have:=Sb (cc:=cc) (k:=off+n) (v:=v) (l:=l) (by simp; omega);rw [← this];simp only [Nat.add_assoc]
  ·simp [World.setCell] at h4; exact h4
theorem Vf {v:AV} {u:Value} (h:bD P m w Z v u) (h1:acr v=true):u.oneCell'=true:=by
 cases v with
 |int k n=>obtain ⟨rfl,_⟩:=h; rfl
 |bool b=>obtain rfl:=h; rfl
 |str s=>obtain ⟨rfl,_⟩:=h; rfl
 |list e l=>obtain ⟨t,_,h2⟩:=h; cases h2<;>rfl
 |own i=>
  obtain ⟨p,_,h2⟩:=h;cases p with
  |row a n c=>obtain rfl:u=_:=h2; rfl
  |mp b=>obtain rfl:u=_:=h2; rfl
  |box b=>exact h2.elim
  |lp b rc=>exact h2.elim
 |ptr i off=>obtain ⟨b,_,rfl⟩:=h; rfl
 |sG e l k off=>obtain ⟨t,b,o,c,_,_,_,_,rfl⟩:=h; rfl
 |nZ i e k off=>obtain ⟨b,o,n,c,_,_,_,rfl⟩:=h; rfl
 |agg l wh=>cases h1
 |pT l=>cases h1
 |fn f c=>obtain ⟨vs,rfl,_⟩:=h; rfl
 |wA c=>
  obtain ⟨rfl,hn,_⟩:=h
  revert h1
  cases u<;>simp [acr,Sim.dU,Value.oneCell']
 |vM i=>obtain ⟨b,rc,_,rfl⟩:=h; rfl
 |gp g off=>obtain ⟨rfl,_⟩:=h; rfl
end
end Go.Sy
namespace Go.Sy
open Go.Sim (Tr aV bM bA bL br ef cx cY aW aD cJ bW aU cM)
variable {P:Program} {m:Mp} {Z:Nat→Prop} {w:World} {nt:Nat} {s:St} {a:Act} {R:Type} {fr:Nat} {K:AV→St→Option R} {r:R}
theorem BM (rl:Rel P m Z s.ob w) (hm:m fr=none) {l:List AV} {wh:Option (TypeId×PV)} {vs:List Value} (h:bu P m w Z l vs) (hw: ∀ t p,wh=some (t,p)→isAgg P t=true∧cu P w Z t (.agg ⟨vs⟩) p)
  (e:qg s fr K l wh=some r) {x:Result Next} {ty:TypeId} (hx:x= .ok (.value (.pointer (some ⟨w.heap.size,0,none⟩))) (w.alloc (.cells ⟨vs⟩ ty))): ∃ v s',K v s'=some r∧dh P m Z w s fr x v s':=by
 unfold qg at e;split at e
 ·rename_i ob h1 h2
  obtain ⟨g1,g2⟩:=bX h2;refine ⟨_,_,e,_,Z,_,_, .inl hx,⟨.up hm _,fun i hi=>Mp.fR m _ hi,fun _ h=>h,fH.alloc rl _,fun b hb _=>RowKit.Below.heap_alloc _ _ _ hb,fun _ h=> .inl h,fun p b hp hb=>by rw [Mp.bg] at hp; cases hp; cases hb; exact .inr (.inl (Nat.le_refl _))⟩,rl.qg hm g2 h hw,⟨w.heap.size,Mp.bg ..,rfl⟩,rfl,rfl,g1⟩
 ·cases e
theorem mS {v:AV} {u:Value} (h:bD P m w Z v u):bu P m w Z (gj v) u.cells.toList∧ ∀ t p,M3 v=some (t,p)→isAgg P t=true∧cu P w Z t (.agg u.cells) p:=by
 cases v with
 |agg l wh=>
  obtain ⟨vs,rfl,h1,h2⟩:=h;exact ⟨h1,h2⟩
 |int k n=>obtain ⟨rfl,h1⟩:=h; exact ⟨⟨⟨rfl,h1⟩,trivial⟩,fun t p e=>by cases e⟩
 |bool b=>obtain rfl:=h; exact ⟨⟨rfl,trivial⟩,fun t p e=>by cases e⟩
 |str q=>obtain ⟨rfl,h1⟩:=h; exact ⟨⟨⟨rfl,h1⟩,trivial⟩,fun t p e=>by cases e⟩
 |list e l=>
  have hc:u.cells= #[u]:=by obtain ⟨t,_,h2⟩:=h; cases h2<;>rfl
  rw [hc]; exact ⟨⟨h,trivial⟩,fun t p e=>by cases e⟩
 |own i=>
  have hc:u.cells= #[u]:=by
   obtain ⟨p,_,h2⟩:=h;cases p with
   |row a n c=>obtain rfl:u=_:=h2; rfl
   |mp b=>obtain rfl:u=_:=h2; rfl
   |box b=>exact h2.elim
   |lp b rc=>exact h2.elim
  rw [hc]; exact ⟨⟨h,trivial⟩,fun t p e=>by cases e⟩
 |ptr i off=>
  have hc:u.cells= #[u]:=by obtain ⟨b,_,rfl⟩:=h; rfl
  rw [hc]; exact ⟨⟨h,trivial⟩,fun t p e=>by cases e⟩
 |sG e l k off=>
  have hc:u.cells= #[u]:=by obtain ⟨t,b,o,c,_,_,_,_,rfl⟩:=h; rfl
  rw [hc]; exact ⟨⟨h,trivial⟩,fun t p e=>by cases e⟩
 |nZ i e k off=>
  have hc:u.cells= #[u]:=by obtain ⟨b,o,n,c,_,_,_,rfl⟩:=h; rfl
  rw [hc]; exact ⟨⟨h,trivial⟩,fun t p e=>by cases e⟩
 |pT l=>
  have hc:u.cells= #[u]:=by obtain ⟨vs,rfl,_⟩:=h; rfl
  rw [hc]; exact ⟨⟨h,trivial⟩,fun t p e=>by cases e⟩
 |fn f c=>
  have hc:u.cells= #[u]:=by obtain ⟨vs,rfl,_⟩:=h; rfl
  rw [hc]; exact ⟨⟨h,trivial⟩,fun t p e=>by cases e⟩
 |wA c=>
  have hc:u.cells= #[u]:=by
   obtain ⟨rfl,hn,hg⟩:=h;cases u<;>first|rfl|cases hg
  rw [hc]; exact ⟨⟨h,trivial⟩,fun t p e=>by cases e⟩
 |vM i=>
  have hc:u.cells= #[u]:=by obtain ⟨b,rc,_,rfl⟩:=h; rfl
  rw [hc]; exact ⟨⟨h,trivial⟩,fun t p e=>by cases e⟩
 |gp g off=>
  have hc:u.cells= #[u]:=by obtain ⟨rfl,_⟩:=h; rfl
  rw [hc]; exact ⟨⟨h,trivial⟩,fun t p e=>by cases e⟩
theorem xj {t:TypeId} {l:List AV} (h:HD P t=some l): ∃ z,bA P t=some z∧bu P m w Z l z.cells.toList:=by
 unfold HD at h;split at h
 ·rename_i z hz
  split at h
  ·rename_i v hv
   cases h;exact ⟨z,hz,(mS (qZ (m:=m) (w:=w) (Z:=Z) z hv)).1⟩
  ·cases h
 ·cases h
theorem GS {t:TypeId} (rl:Rel P m Z s.ob w) (hm:m fr=none) (e:(andThen (HD P t) fun l=>qg s fr K l none)=some r):
  ∃ v s',K v s'=some r∧dh P m Z w s fr ((do pure (.value (← Instr.alloc t true .nilIface)):Sem Next).run P w) v s':=by
 obtain ⟨l,h1,h2⟩:=aG e;obtain ⟨z,g1,g2⟩:=xj (m:=m) (w:=w) (Z:=Z) h1;refine BM rl hm g2 (fun t p e=>by cases e) h2 (ty:=t) ?_;simp [Instr.alloc,Sim.bW g1,Sim.GR]
theorem RL {t:TypeId} {x:AV} {u:Value} (rl:Rel P m Z s.ob w) (hm:m fr=none) (hu:bD P m w Z x u) (e:qg s fr K (gj x) (M3 x)=some r):
  ∃ v s',K v s'=some r∧dh P m Z w s fr ((do pure (.value (← Instr.box t u)):Sem Next).run P w) v s':=by
 obtain ⟨g1,g2⟩:=mS hu;refine BM rl hm g1 (by simpa using g2) e (ty:=t) ?_;simp [Instr.box,Sim.GR]
end Go.Sy
namespace Go.Sy
open Go.Sim (Tr aV bM bA bL br ef cx cY aW aD cJ bW aU cM)
variable {P:Program} {m:Mp} {Z:Nat→Prop} {w:World} {nt:Nat} {s:St} {a:Act} {R:Type} {fr:Nat} {K:AV→St→Option R} {r:R}
theorem Sc {t e:TypeId} {b o c:Nat} {l:List PV} (h:jM P w Z t (.slice (some ⟨b,o,none⟩) l.length c) (.list l)) (ht:P.underlying t=some (.slice e)) {k:Nat} (hk:k<l.length):
  ∃ vs:List Value,vs.length=(aI P e).length∧(∀ j v,vs[j]? =some v→w.cell? ⟨b,o+(k*(aI P e).length+j),none⟩=some v)∧(∀ j t' x,(aI P e)[j]? =some t'→vs[j]? =some x→jM P w Z t' x (cellAt P e l[k] j))∧shaped P e l[k]∧aV P e=some (aI P e).length∧True∧l.length≤aN∧l.length≤c:=by
 generalize hv:Value.slice (some ⟨b,o,none⟩) l.length c=v at h;generalize hp:PV.list l=p at h;cases h with
 |sl h1 h2 h3 h4 h5 h6 u h7 h8 h9=>
  cases hp;simp only [Value.slice.injEq,Option.some.injEq,Addr.mk.injEq] at hv;obtain ⟨⟨rfl,rfl,_⟩,_,rfl⟩:=hv;rw [ht] at h1;cases h1;refine ⟨(List.range (aI P e).length).map (u k),by simp,fun j v hj=> ?_,fun j t' x hj hx=> ?_,h6 _ (by simp),h5,trivial,h4,h3⟩
  ·simp only [List.getElem?_map] at hj
   have hlt:j<(aI P e).length:=by
    rcases Nat.lt_or_ge j (aI P e).length with h|h
    ·exact h
    ·rw [List.getElem?_eq_none (by simpa using h)] at hj; cases hj
   rw [List.getElem?_range hlt] at hj;cases hj;exact h7 k j hk hlt
  ·have hlt:j<(aI P e).length:=(List.getElem?_eq_some_iff.1 hj).1
   simp only [List.getElem?_map,List.getElem?_range hlt,Option.map_some,Option.some.injEq] at hx;subst hx;exact h8 k j l[k] t' (by simp [hk]) hj
 |_=>cases hp<;>cases hv
theorem BN {t e:TypeId} {p:PV} {off:Nat} {v:AV} (h:sH P t e p off=some v) {vs:List Value} (hv:vs.length=(aI P e).length):
  bM P t=some true∧(∃ n,aV P t=some n∧off+n≤vs.length)∨bM P t=some false∧off<vs.length:=by
 unfold sH at h;split at h
 ·rename_i n hq hn
  split at h
  ·rename_i hle _; exact .inl ⟨hq,n,hn,by have:=cx hle; omega⟩
  ·cases h
 ·rename_i hq hn
  split at h
  ·rename_i u hu; exact .inr ⟨hq,by rw [hv]; exact (List.getElem?_eq_some_iff.1 hu).1⟩
  ·cases h
 ·cases h
theorem Vg {e:TypeId} {l:List PV} {b o c:Nat} (h:HM P w Z e l (some (b,o)) c) {k:Nat} (hk:k<l.length):
  ∃ vs:List Value,vs.length=(aI P e).length∧(∀ j v,vs[j]? =some v→w.cell? ⟨b,o+(k*(aI P e).length+j),none⟩=some v)∧(∀ j t' x,(aI P e)[j]? =some t'→vs[j]? =some x→jM P w Z t' x (cellAt P e l[k] j))∧shaped P e l[k]:=by
 rcases h with ⟨h,_⟩|⟨b',o',h,hz,cc,ty,fr,h4,h5,h6,h7,h8,h9,h10,h11⟩
 ·cases h
 ·cases h
  have key: ∀ j t',(aI P e)[j]? =some t'→ ∃ u,cc[o+(k*(aI P e).length+j)]? =some u∧jM P w Z t' u (cellAt P e l[k] j):=fun j t' hj=>h11 k j l[k] t' (by simp [hk]) hj
  refine ⟨(List.range (aI P e).length).map (fun j=>cc.getD (o+(k*(aI P e).length+j)) undef),by simp,fun j v hj=> ?_,fun j t' x hj hx=> ?_,h10 _ (by simp)⟩
  ·simp only [List.getElem?_map] at hj
   have hlt:j<(aI P e).length:=by
    rcases Nat.lt_or_ge j (aI P e).length with h|h
    ·exact h
    ·rw [List.getElem?_eq_none (by simpa using h)] at hj; cases hj
   rw [List.getElem?_range hlt] at hj;cases hj;obtain ⟨u,hu,_⟩:=key j ((aI P e)[j]) (by simp [hlt]);simp [World.cell?,h4,hu,Array.getD_eq_getD_getElem?]
  ·have hlt:j<(aI P e).length:=(List.getElem?_eq_some_iff.1 hj).1
   obtain ⟨u,hu,hr⟩:=key j t' hj;simp only [List.getElem?_map,List.getElem?_range hlt,Option.map_some,Option.some.injEq] at hx;subst hx;rw [Array.getD_eq_getD_getElem?,hu];exact hr
theorem rd_eq {l:List PV} {k:Int} (h0:0≤k) (h1:k<l.length):rd l k=l[k.toNat]'(by omega):=by
 simp [rd,List.getD_eq_getElem?_getD,show k.toNat<l.length by omega]
theorem uW {k:Int} {n:Nat} (h:bp k n=true):0≤k∧k<n:=by
 simp only [bp,Bool.and_eq_true,decide_eq_true_eq] at h;exact h
theorem Me {t:TypeId} {x:AV} {u:Value} (rl:Rel P m Z s.ob w) (hu:bD P m w Z x u) (e:vO P s K t x=some r):
  ∃ v s',K v s'=some r∧dh P m Z w s fr ((do pure (.value (← Instr.loadAt t u)):Sem Next).run P w) v s':=by
 have fin: ∀ {ad:Addr} {val:Value} {v:AV},u= .pointer (some ad)→(loadVar t ad).run P w= .ok val w→bD P m w Z v val→K v s=some r→ ∃ v s',K v s'=some r∧dh P m Z w s fr ((do pure (.value (← Instr.loadAt t u)):Sem Next).run P w) v s':=by
  intro ad val v h1 h2 h3 h4;subst h1;exact ⟨v,s,h4, .value rl (by simp [Instr.loadAt,Instr.sureAddr,h2]) h3⟩
 cases x with
 |ptr i off=>
  simp only [vO] at e;split at e
  ·rename_i l wh hb
   obtain ⟨v,h1,h2⟩:=aG e;obtain ⟨b,g1,g2⟩:=hu;obtain ⟨b',g3,g4,cc,ty,fz,g5,g6,g7,g8⟩:=M_ (rl.obj i _ (gq hb)) g1;rw [g1] at g3; cases g3;obtain ⟨q1,q2⟩:=xh h1 g7 (by simpa using g8);refine fin g2 ?_ q1 h2;have:=BL (P:=P) (w:=w) (b:=b) (o:=0) (off:=off) (vs:=cc.toList) (fun j v hj=>by simp [World.cell?,g5]; simpa using hj) q2;simpa using this
  ·cases e
 |sG e1 l k off=>
  simp only [vO] at e;obtain ⟨v,h1,h2⟩:=aG e;obtain ⟨t0,b,o,c,g1,g2,g3,g4,g5⟩:=hu;have hk:k.toNat<l.length:=by omega
  obtain ⟨vs,q1,q2,q3,q4,_⟩:=Sc g2 g1 hk;rw [rd_eq g3 g4] at h1;have:=BL (P:=P) (w:=w) (b:=b) (o:=o+k.toNat*(aI P e1).length) (off:=off) (vs:=vs) (fun j v hj=>by rw [← q2 j v hj]; congr 2; omega) (BN h1 q1);refine fin g5 (val:=tE P t vs off) (by rw [← this]; congr 3; omega) (oX h1 q1 q4 q3 rfl) h2
 |nZ i e1 k off=>
  simp only [vO] at e;split at e
  ·rename_i e2 l hrow
   split at e
   ·rename_i hb
    obtain rfl:=br hb;obtain ⟨v,h1,h2⟩:=aG e;obtain ⟨b,o,n,c,g1,g3,g4,g5⟩:=hu;obtain ⟨a0,c0,d1,d2⟩:=rl.obj i _ (dD hrow);rw [g1] at d1;cases d1;obtain ⟨vs,q1,q2,q3,q4⟩:=Vg d2 (k:=k.toNat) (by omega);rw [rd_eq g3 g4] at h1;have:=BL (P:=P) (w:=w) (b:=b) (o:=o+k.toNat*(aI P e1).length) (off:=off) (vs:=vs) (fun j v hj=>by rw [← q2 j v hj]; congr 2; omega) (BN h1 q1);refine fin g5 (val:=tE P t vs off) (by rw [← this]; congr 3; omega) (oX h1 q1 q4 q3 rfl) h2
   ·cases e
  ·cases e
 |_=>simp [vO] at e
theorem Lb {l c:List AV} {vs cs:List Value} {off:Nat} (h:bu P m w Z l vs) (hc:bu P m w Z c cs):bu P m w Z (TX l off c) (vs.take off++cs++vs.drop (off+cs.length)):=by
 unfold TX;rw [ct hc];exact gm (gm (uR off h) hc) (uS _ h)
theorem xk: ∀ {l:List AV} {vs:List Value},bu P m w Z l vs→K4 l=true→ ∀ v∈vs,v.oneCell'=true
 |[],[],_,_,v,hv=>by cases hv
 |a::l,u::vs,h,h1,v,hv=>by
  simp only [K4] at h1;split at h1
  ·rename_i h2
   rcases List.mem_cons.1 hv with rfl|hv
   ·exact Vf h.1 h2
   ·exact xk h.2 h1 v hv
  ·cases h1
 |[],_::_,h,_,_,_=>h.elim
 |_::_,[],h,_,_,_=>h.elim
theorem BO {t:TypeId} {ad:Addr} {u:Value} {n:Nat} {w':World} (hn:aV P t=some n) (hl:u.cells.toList.length=n) (h:(storeCells ad u.cells.toList 0).run P w= .ok () w'):(storeVar t ad u).run P w= .ok () w':=by
 have:u.cells.size=n:=by simpa using hl
 simp [storeVar,aW hn,this];exact h
theorem BP {e:TypeId} (hq:isAgg P e=true): ∀ (c cs:List PV) (j:Nat),j+c.length≤cs.length→ ∃ cs',gk P e (.agg cs) j c= .agg cs'∧cs'.length=cs.length∧ ∀ i,cs'[i]? =if j≤i∧i<j+c.length then c[i - j]? else cs[i]?
 |[],cs,j,h=>⟨cs,rfl,rfl,fun i=>by rw [if_neg (by simp only [List.length_nil]; omega)]⟩
 |q::c,cs,j,h=>by
  simp only [List.length_cons] at h;obtain ⟨cs',h1,h2,h3⟩:=BP hq c (cs.set j q) (j+1) (by simp; omega);refine ⟨cs', ?_,by simpa using h2,fun i=> ?_⟩
  ·simp only [gk]
   rw [← h1]
   congr 1
   simp only [setAt,hq,pX,PV.cells]
  ·rw [h3,List.getElem?_set]
   simp only [List.length_cons];by_cases e1:j=i
   ·subst e1
    rw [if_neg (by omega),if_pos rfl,if_pos (by omega),if_pos ⟨by omega,by omega⟩]; simp
   ·by_cases e2:j+1≤i∧i<j+1+c.length
    ·rw [if_pos e2,if_pos ⟨by omega,by omega⟩,show i - j=(i - (j+1))+1 by omega,List.getElem?_cons_succ]
    ·rw [if_neg e2,if_neg e1,if_neg (by omega)]
theorem Nb {e:TypeId} (hq:isAgg P e=false) {c:List PV} {p:PV} {j:Nat} (h:j+c.length≤1) (h0:c≠[]):gk P e p j c=c.headD p∧j=0∧c.length=1:=by
 match c,h0 with
 |[q],_=>
  simp only [List.length_singleton] at h;refine ⟨?_,by omega,rfl⟩;simp [gk,setAt,hq]
 |q::q'::c,_=>simp at h; omega
theorem HQ {e:TypeId} {p:PV} {c:List PV} {off:Nat} (hp:shaped P e p) (hle:off+c.length≤(aI P e).length):
  shaped P e (gk P e p off c)∧ ∀ j,j<(aI P e).length→cellAt P e (gk P e p off c) j=if off≤j∧j<off+c.length then c.getD (j - off) .zero else cellAt P e p j:=by
 cases hq:isAgg P e with
 |true=>
  obtain ⟨cs,rfl,hl⟩:=hp hq;obtain ⟨cs',h1,h2,h3⟩:=BP (P:=P) hq c cs off (by omega);refine ⟨fun _=>⟨cs',h1,h2.trans hl⟩,fun j hj=> ?_⟩;rw [h1];simp only [cellAt,hq,aj,PV.cells,List.getD_eq_getElem?_getD,h3];split<;>rfl
 |false=>
  refine ⟨fun h=>absurd (hq.symm.trans h) (by decide),fun j hj=> ?_⟩;have h1:=eT hq;rw [h1] at hle hj;simp only [List.length_singleton] at hle hj;cases c with
  |nil=>
   rw [if_neg (by simp only [List.length_nil]; omega)]; rfl
  |cons q c=>
   obtain ⟨g1,g2,g3⟩:=Nb (P:=P) hq (p:=p) hle (by simp);rw [g1,if_pos ⟨by omega,by omega⟩];simp only [cellAt,hq,List.headD_cons];rw [show j - off=0 by omega]; rfl
theorem Vh {t e:TypeId} {i off n:Nat} {k:Int} {y:AV} {u v:Value} (rl:Rel P m Z s.ob w) (hu:bD P m w Z (.nZ i e k off) u) (hv:bD P m w Z y v) (hn:aV P t=some n) (h1:(gj y).length=n) (h2:K4 (gj y)=true)
  {l:List PV} (hrow:look s.ob i=some (.row e l)) (hoff:off+n≤(aI P e).length) {c:List PV} (hc:uN P s (((aI P e).drop off).take n) (gj y)=some c) {s1:St} (hd:drop (cW.mG (gj y)) s=some s1) {ob:Lay AO} (qY:put s1.ob i (some (.row e (l.set k.toNat (gk P e (rd l k) off c))))=some ob)
  (aen: ∃ q,look s1.ob i=some q) (e:K (.pT []) {s1 with ob:=ob}=some r):
  ∃ q s',K q s'=some r∧dh P m Z w s fr ((do Instr.storeAt t u v; pure .skip:Sem Next).run P w) q s':=by
 rename_i el;obtain ⟨c1,c2⟩:=mS hv;have Dt:=ct c1;obtain ⟨f1,f2,f3,f4⟩:=sK rl c1 hc;obtain ⟨d1,d2,d3,d4⟩:=iI hd;obtain ⟨p1,p2⟩:=bX qY;have rl1:=rl.drop f4 hd;have hi1:look s1.ob i=some (.row el l):=by
  obtain ⟨q,hq⟩:=aen;rw [d4] at hq ⊢;split at hq
  ·cases hq
  ·rename_i hne; rw [if_neg hne]; exact hrow
 obtain ⟨b,o,nn,cp,g1,g2,g3,rfl⟩:=hu;obtain ⟨a',c',g4,g5⟩:=rl1.obj i _ hi1;rw [g1] at g4;simp only [Option.some.injEq,Pl.row.injEq] at g4;obtain ⟨rfl,rfl,rfl⟩:=g4;rcases g5 with ⟨g5,_⟩|⟨b',o',g5,hz,cc,ty,fz,hh,hs,hsz,hcap,hlc,hlm,hsh,hcell⟩
 ·cases g5
 simp only [Option.some.injEq,Prod.mk.injEq] at g5;obtain ⟨rfl,rfl⟩:=g5;generalize hT:(aI P el).length=T at*;have hk:k.toNat<l.length:=by omega
 have hin:k.toNat*T+off+n≤cp*T:=by
  have h1:(k.toNat+1)*T≤cp*T:=Nat.mul_le_mul_right _ (by omega);rw [Nat.add_mul] at h1;omega
 have hvn:v.cells.toList.length=n:=by rw [← Dt]; exact h1
 have hcn:c.length=n:=f2.trans hvn;obtain ⟨w',k1,k2,k3,k4,k5,k6,k7⟩:=lJ (P:=P) v.cells.toList (o+(k.toNat*T+off)) 0 w cc.toList (b:=b) (by simpa using hh) (by simpa using hs) (by rw [hvn]; simp only [Array.length_toList]; omega) (xk c1 h2);have hkeep:fH (Zo m (cW.mG (gj y)) Z) w w':=⟨k5,k6,k7,Nat.le_of_eq k4,fun q hq=>k3 q fun e=>hz (e ▸ hq)⟩;have hrun:((do Instr.storeAt t (.pointer (some ⟨b,o+(k.toNat*T+off),none⟩)) v; pure .skip:Sem Next).run P w)= .ok .skip w':=cM (by
  simp only [Instr.storeAt,Instr.sureAddr,Sem.run_bind,Sem.run_pure,Result.andThen_ok];exact BO hn hvn k1)
 refine ⟨_,_,e,m,Zo m (cW.mG (gj y)) Z,undef,w', .inr ⟨hrun,rfl⟩,⟨.refl m,fun _ _=>rfl,fun _ h=> .sub h,⟨k5,k6,k7,Nat.le_of_eq k4,fun q hq=>hkeep.heap q (.sub hq)⟩,fun q _ hq=>k3 q fun e=>hq i _ _ hrow g1 (by rw [e]; rfl),fun q hq=>Zo.old f4 hq,fun _ _ h _=> .inl h⟩, ?_,⟨[],rfl,trivial⟩,d1,d2,d3.trans p1⟩;have hrd:rd l k=l[k.toNat]:=rd_eq g2 g3;obtain ⟨q1,q2⟩:=HQ (P:=P) (e:=el) (p:=rd l k) (c:=c) (off:=off) (by rw [hrd]; exact hsh _ (List.getElem_mem hk)) (by rw [hcn,hT]; exact hoff);refine rl1.write hi1 g1 rfl p2 k4 k3 ⟨some (b,o),cp,by rw [g1]; simp, .inr ⟨b,o,rfl,hz,_,ty,fz,k2, ?_,by rw [hT]; exact hsz, ?_,by simpa using hlc,by simpa using hlm,fun p hp=> ?_,fun i2 j p t' hi2 hj=> ?_⟩⟩
 ·refine cast (congrArg (soft · fz) ?_) hs
  have hA:o+(k.toNat*T+off)≤cc.toList.length:=by simp only [Array.length_toList]; omega
  simp only [List.size_toArray,List.length_append,List.length_take,List.length_drop,Nat.add_zero,Nat.min_eq_left hA,hvn,Array.length_toList];omega
 ·rw [hT]
  have hA:o+(k.toNat*T+off)≤cc.toList.length:=by simp only [Array.length_toList]; omega
  simp only [List.size_toArray,List.length_append,List.length_take,List.length_drop,Nat.add_zero,Nat.min_eq_left hA,hvn,Array.length_toList];omega
 ·rcases List.mem_or_eq_of_mem_set hp with hp|rfl
  ·exact hsh p hp
  ·exact q1
 ·have hjT:j<T:=by rw [← hT]; exact (List.getElem?_eq_some_iff.1 hj).1
  have hil:i2<l.length:=by have:=(List.getElem?_eq_some_iff.1 hi2).1; simpa using this
  have abT: ∀ (x:Nat),(⟨cc.toList.take (o+(k.toNat*T+off)+0)++v.cells.toList++cc.toList.drop (o+(k.toNat*T+off)+0+v.cells.toList.length)⟩:Array Value)[x]? =if o+(k.toNat*T+off)≤x∧x<o+(k.toNat*T+off)+n then v.cells.toList[x - (o+(k.toNat*T+off))]? else cc[x]? :=by
   intro x;have hA:o+(k.toNat*T+off)≤cc.toList.length:=by simp only [Array.length_toList]; omega
   rw [List.getElem?_toArray,hvn];by_cases x1:x<o+(k.toNat*T+off)
   ·rw [if_neg (by omega),List.append_assoc,List.getElem?_append_left (by rw [List.length_take]; omega),List.getElem?_take,if_pos (by omega)]; simp
   ·by_cases x2:x<o+(k.toNat*T+off)+n
    ·rw [if_pos ⟨by omega,x2⟩,List.append_assoc,List.getElem?_append_right (by rw [List.length_take]; omega),List.getElem?_append_left (by rw [List.length_take,hvn]; omega),List.length_take]
     congr 1; omega
    ·rw [if_neg (by omega),List.getElem?_append_right (by rw [List.length_append,List.length_take,hvn]; omega),List.getElem?_drop,List.length_append,List.length_take,hvn,Array.getElem?_toList]
     congr 1; omega
  rw [hT];simp only [abT];by_cases hik:i2=k.toNat
  ·subst hik
   rw [List.getElem?_set_self hk] at hi2;cases hi2;rw [q2 j (by rw [hT]; exact hjT),hcn];by_cases hjr:off≤j∧j<off+n
   ·rw [if_pos hjr]
    have hx:j - off<v.cells.toList.length:=by omega
    refine ⟨v.cells.toList[j - off], ?_, ?_⟩
    ·rw [if_pos ⟨by omega,by omega⟩,show o+(k.toNat*T+j) - (o+(k.toNat*T+off))=j - off by omega]
     exact List.getElem?_eq_getElem hx
    ·have hcj:c[j - off]? =some (c[j - off]'(by omega)):=List.getElem?_eq_getElem (by omega)
     have ht':(((aI P el).drop off).take n)[j - off]? =some t':=by
      rw [List.getElem?_take,if_pos (by omega),List.getElem?_drop,show off+(j - off)=j by omega]; exact hj
     have:=f3 (j - off) t' _ _ ht' (List.getElem?_eq_getElem hx) hcj;rw [List.getD_eq_getElem?_getD,hcj];exact this.mono hkeep.heap fun _ h=>h
   ·rw [if_neg hjr]
    obtain ⟨uu,u1,u2⟩:=hcell k.toNat j _ t' (List.getElem?_eq_getElem hk) hj;refine ⟨uu, ?_,by rw [hrd]; exact u2.mono hkeep.heap fun _ h=>h⟩;rw [if_neg (by omega), ←u1]
  ·rw [List.getElem?_set_ne (Ne.symm hik)] at hi2
   obtain ⟨uu,u1,u2⟩:=hcell i2 j p t' hi2 hj;refine ⟨uu, ?_,u2.mono hkeep.heap fun _ h=>h⟩;rw [if_neg, ←u1];intro ah8;rcases Nat.lt_or_gt_of_ne hik with h|h
   ·have:=Nat.mul_le_mul_right T (show i2+1≤k.toNat by omega)
    rw [Nat.add_mul] at this; omega
   ·have:=Nat.mul_le_mul_right T (show k.toNat+1≤i2 by omega)
    rw [Nat.add_mul] at this; omega
theorem GU {t:TypeId} {x y:AV} {u v:Value} (rl:Rel P m Z s.ob w) (hu:bD P m w Z x u) (hv:bD P m w Z y v) (e:DD P s K t x y=some r):
  ∃ q s',K q s'=some r∧dh P m Z w s fr ((do Instr.storeAt t u v; pure .skip:Sem Next).run P w) q s':=by
 unfold DD at e;split at e
 ·cases e
 ·rename_i n hn
  split at e
  ·rename_i h1 h2
   have h1:=br h1;obtain ⟨c1,c2⟩:=mS hv;have Dt:=ct c1;cases x with
   |ptr i off=>
    dsimp only at e;split at e
    ·rename_i l wh hb
     split at e
     ·rename_i ob h3 h4
      obtain ⟨p1,p2⟩:=bX h4;have h3:=cx h3;obtain ⟨b,g1,rfl⟩:=hu;obtain ⟨b',g3,g4,cc,ty,fz,g5,g6,g7,g8⟩:=M_ (rl.obj i _ (gq hb)) g1;rw [g1] at g3; cases g3;have Oc:=ct g7;obtain ⟨w',k1,k2,k3,k4,k5,k6,k7⟩:=lJ (P:=P) v.cells.toList off 0 w cc.toList (b:=b) (by simpa using g5) (by simpa using g6) (by simp at Oc Dt ⊢; omega) (xk c1 h2);have hkeep:fH Z w w':=⟨k5,k6,k7,Nat.le_of_eq k4,fun q hq=>k3 q fun e=>g4 (e ▸ hq)⟩;have hrun:((do Instr.storeAt t (.pointer (some ⟨b,off,none⟩)) v; pure .skip:Sem Next).run P w)= .ok .skip w':=cM (by
       simp only [Instr.storeAt,Instr.sureAddr,Sem.run_bind,Sem.run_pure,Result.andThen_ok];exact BO hn (by rw [← Dt]; exact h1) k1)
      have hrel:=Lb (off:=off) g7 c1;have aeo:=d_ (Ext.refl m) hkeep.heap (fun _ h=>h) _ _ hrel;refine ⟨_,_,e,m,Z,undef,w', .inr ⟨hrun,rfl⟩,⟨.refl m,fun _ _=>rfl,fun _ h=>h,hkeep,fun q _ hq=>k3 q fun e=>hq i _ _ (gq hb) g1 (by rw [e]; rfl),fun _ h=> .inl h,fun _ _ h _=> .inl h⟩, ?_,⟨[],rfl,trivial⟩,rfl,rfl,p1⟩;refine rl.write (gq hb) g1 rfl p2 k4 k3 (.inl ⟨b,g1,g4,_,ty,fz,k2, ?_, ?_, ?_⟩)
      ·refine cast (congrArg (soft · fz) ?_) g6
       simp at Oc Dt ⊢; omega
      ·simpa using aeo
      ·intro t' p hp
       split at hp
       ·rename_i z1 z2
        have z1:=br z1;have z2:=br z2;obtain ⟨d1,d2⟩:=c2 t' p hp;refine ⟨d1, ?_⟩;subst z1;have d3:=d2.mono hkeep.heap fun _ h=>h
        have:(cc.toList.take (0+0)++v.cells.toList++cc.toList.drop (0+0+v.cells.toList.length))=v.cells.toList:=by
         have:cc.toList.length≤v.cells.toList.length:=by rw [← Oc, ←z2, ←Dt,h1]; exact Nat.le_refl _
         rw [Nat.zero_add,Nat.zero_add,List.drop_eq_nil_of_le this]; simp
        rw [this];simpa using d3
       ·cases hp
     ·cases e
    ·cases e
   |nZ i el k off=>
    dsimp only at e;split at e
    ·rename_i e' l hrow
     split at e
     ·rename_i c s1 g1 g2 g3 g4
      obtain rfl:=br g1;split at e
      ·rename_i ob q q1 q2
       refine Vh rl hu hv hn h1 h2 (dD hrow) (cx g2) g3 g4 q1 ⟨_,dD (e:=q.1) (l:=q.2) q2⟩ e
      ·cases e
     ·cases e
    ·cases e
   |_=>simp at e
  ·cases e
end Go.Sy
namespace Go.Sy
open Go.Sim (Tr aV bM bA bL br ef cx cY aW aD cJ bW aU cM)
variable {P:Program} {m:Mp} {Z:Nat→Prop} {w:World} {nt:Nat} {s:St} {a:Act} {R:Type} {fr:Nat} {K:AV→St→Option R} {r:R}
theorem uw {t:TypeId} {fs:Array Field} {f:Nat} {fd:Field} {x v:AV} {u:Value} (rl:Rel P m Z s.ob w) (hu:bD P m w Z x u) (ht:P.underlying t=some (.struct fs)) (hf:fs.toList[f]? =some fd) (e:HE P fd x=some v):
  dh P m Z w s fr ((do pure (.value (← Instr.fieldAt t u f)):Sem Next).run P w) v s:=by
 unfold HE at e;have hf':fs[f]? =some fd:=by simpa using hf
 have run: ∀ {b o n:Nat},aV P fd.type=some (n+1)→u= .pointer (some ⟨b,o,none⟩)→(Instr.fieldAt t u f).run P w= .ok (.pointer (some ⟨b,o+fd.offset,none⟩)) w:=by
  intro b o n hn hu;subst hu;simp [Instr.fieldAt,aD ht,hf',Instr.sureAddr,fieldPlace,aW hn,qi]
 split at e
 ·cases e
 ·rename_i k hz hn
  cases k with
  |zero=>exact (hz rfl).elim
  |succ k=>
   split at e
   ·cases e
    obtain ⟨b,g1,g2⟩:=hu;exact .value rl (run hn g2) ⟨b,g1,by simp⟩
   ·cases e
    obtain ⟨t0,b,o,c,g1,g2,g3,g4,g5⟩:=hu;exact .value rl (run hn g5) ⟨t0,b,o,c,g1,g2,g3,g4,by simp [Nat.add_assoc]⟩
   ·cases e
    obtain ⟨b,o,n,c,g1,g3,g4,g5⟩:=hu;exact .value rl (run hn g5) ⟨b,o,n,c,g1,g3,g4,by simp [Nat.add_assoc]⟩
   ·cases e
    obtain ⟨g1,g2⟩:=hu;refine .value rl (run hn g1) ⟨?_,by omega⟩
    congr 3
    omega
   ·cases e
 ·cases e
theorem G3 {t:TypeId} {fs:Array Field} {f:Nat} {fd:Field} {l:List AV} {wh:Option (TypeId×PV)} {v:AV} {u:Value} (rl:Rel P m Z s.ob w) (hu:bD P m w Z (.agg l wh) u) (ht:P.underlying t=some (.struct fs)) (hf:fs.toList[f]? =some fd) (e:K5 P fd.type l wh fd.offset=some v):
  dh P m Z w s fr ((do pure (.value (← Instr.field t u f)):Sem Next).run P w) v s:=by
 obtain ⟨vs,rfl,h1,h2⟩:=hu;obtain ⟨g1,g2⟩:=xh e h1 h2;have hf':fs[f]? =some fd:=by simpa using hf
 refine .value rl ?_ g1;have hp:(part fd.type ⟨vs⟩ fd.offset).run P w= .ok (tE P fd.type vs fd.offset) w:=by
  rcases g2 with ⟨q1,n,q2,q3⟩|⟨q1,q2⟩
  ·simp only [part,Sem.run_bind,cJ q1,Result.andThen_ok,if_true,aW q2,Sem.run_pure,tE,q1,q2]
   congr 2
   apply Array.ext';simp [List.extract_eq_take_drop]
  ·have h3:(⟨vs⟩:Array Value)[fd.offset]? =some vs[fd.offset]:=by simp [q2]
   simp [part,cJ q1,tE,q1,q2,List.getD_eq_getElem?_getD,h3]
 simp [Instr.field,aD ht,hf',asAgg,hp]
theorem Nc {t:TypeId} {d:TypeDesc} {x:AV} {u i:Value} {k:Int} {kd:IntKind} (rl:Rel P m Z s.ob w) (hu:bD P m w Z x u) (hi:i= .int kd k) (ht:P.underlying t=some d) (e:DE P s K d x k=some r):
  ∃ v s',K v s'=some r∧dh P m Z w s fr ((do pure (.value (← Instr.indexAt t u i)):Sem Next).run P w) v s':=by
 subst hi;unfold DE at e;split at e
 ·rename_i e1 e2 l
  split at e
  ·rename_i hb
   obtain rfl:=br hb;obtain ⟨h1,h2⟩:=cC e;obtain ⟨g0,g1⟩:=uW h1;obtain ⟨t0,q1,q2⟩:=hu;refine ⟨_,_,h2, ?_⟩;generalize hp:PV.list l=p at q2;cases q2 with
   |nil h3=>cases hp; simp at g1; omega
   |sl h3 h4 h5 h6 h7 h8 uu h9 h10 h11=>
    cases hp;rename_i sp b off c;obtain rfl:sp=none:=h11 (by intro h; subst h; simp at g1; omega);rw [q1] at h3;cases h3;refine .value rl ?_ ⟨t0,b,off,c,q1,(.sl q1 h4 h5 h6 h7 h8 uu h9 h10 h11),g0,g1,rfl⟩;simp [Instr.indexAt,asIntOf,aD ht,aW h7,g0,g1,qi]
   |_=>cases hp
  ·cases e
 ·rename_i e1 i
  split at e
  ·rename_i e2 l hrow
   split at e
   ·rename_i hb
    obtain rfl:=br hb;obtain ⟨h1,h2⟩:=cC e;obtain ⟨g0,g1⟩:=uW h1;obtain ⟨a1,c1,d1,d2⟩:=rl.obj i _ (dD hrow);obtain rfl:=qW hu d1;have q1:=d1;rcases d2 with ⟨rfl,rfl,rfl⟩|⟨b,o,rfl,hz,cc,ty,fz,h4,h5,h6,h7,h8,h9,h10,h11⟩
    ·simp at g1; omega
    ·refine ⟨_,_,h2, .value rl ?_ ⟨b,o,_,_,q1,g0,g1,rfl⟩⟩
     simp [Instr.indexAt,asIntOf,aD ht,aW h6,g0,g1,qi,addrOf]
   ·cases e
  ·cases e
 ·rename_i n e1 i off
  split at e
  ·rename_i size hn
   obtain ⟨h1,h2⟩:=cC e;obtain ⟨g0,g1⟩:=uW h1;obtain ⟨b,q1,rfl⟩:=hu;refine ⟨_,_,h2, .value rl ?_ ⟨b,q1,rfl⟩⟩;simp [Instr.indexAt,asIntOf,aD ht,aW hn,g0,g1,qi,Instr.sureAddr]
  ·cases e
 ·rename_i n e1 g off
  split at e
  ·rename_i size hn
   obtain ⟨h1,h2⟩:=cC e;obtain ⟨g0,g1⟩:=uW h1;obtain ⟨rfl,q2⟩:=hu;have hk0:(0:Int)≤k*(size:Int):=Int.mul_nonneg g0 (Int.natCast_nonneg _);have hk:(off+k*size).toNat=off.toNat+k.toNat*size:=by
    obtain ⟨kn,rfl⟩: ∃ kn:Nat,k=kn:=⟨k.toNat,by omega⟩;have:((kn:Int)*(size:Int))=((kn*size:Nat):Int):=by simp
    rw [this];simp only [Int.toNat_natCast];omega
   refine ⟨_,_,h2, .value rl ?_ ⟨rfl,by omega⟩⟩;rw [hk];simp [Instr.indexAt,asIntOf,aD ht,aW hn,g0,g1,qi,Instr.sureAddr]
  ·cases e
 ·cases e
theorem X4 {t:TypeId} {b:ByteArray} {i:Value} {k:Int} {kd:IntKind} (rl:Rel P m Z s.ob w) (hi:i= .int kd k) (ht:P.underlying t=some .string) (e:aC (bp k b.size) (K (.int .u8 (bt b k)) s)=some r):
  ∃ v s',K v s'=some r∧dh P m Z w s fr ((do pure (.value (← Instr.index t (.string b) i)):Sem Next).run P w) v s':=by
 subst hi;obtain ⟨h1,h2⟩:=cC e;obtain ⟨g0,g1⟩:=uW h1;have hlt:k.toNat<b.size:=by omega
 refine ⟨_,_,h2, .value rl (v':= .int .u8 (bt b k)) ?_ ⟨rfl, ?_⟩⟩
 ·have hg:b[k.toNat]? =some b[k.toNat]:=ByteArray.getElem?_lt' b _ hlt
  have hb:bt b k=(b[k.toNat]).toNat:=by
   unfold bt;rw [List.getD_eq_getElem?_getD];have:b.data.toList[k.toNat]? =some b[k.toNat]:=by rw [Array.getElem?_toList,Array.getElem?_eq_getElem hlt]; rfl
   rw [this]; rfl
  simp only [Instr.index,asIntOf,Sem.run_bind,Sem.run_pure,Result.andThen_ok,aD ht,if_pos g0,hg,hb]
 ·unfold bt
  generalize b.data.toList.getD k.toNat 0=x;have:x.toNat<256:=UInt8.toNat_lt _;unfold JW IntKind.wrap;simp only [IntKind.bits,IntKind.signed];simp;omega
theorem T7 {t e:TypeId} {v:Value} {l:List PV} (h:jM P w Z t v (.list l)): ∃ a c,v= .slice a l.length c∧l.length≤aN:=by
 generalize hp:PV.list l=p at h;cases h with
 |nil h3=>cases hp; exact ⟨_,_,rfl,by simp⟩
 |sl h3 h4 h5 h6 h7 h8 uu h9 h10 h11=>cases hp; exact ⟨_,_,rfl,by omega⟩
 |_=>cases hp
theorem T8 {i:Nat} {e:TypeId} {l:List PV} {v:Value} (h:gZ P m w Z i (.row e l)) (hv:bD P m w Z (.own i) v): ∃ a c,v= .slice a l.length c∧l.length≤aN:=by
 obtain ⟨a,c,h1,h2⟩:=h;obtain rfl:=qW hv h1;refine ⟨_,_,rfl, ?_⟩;rcases h2 with ⟨_,rfl,_⟩|⟨b,o,_,hz,cc,ty,fz,h4,h5,h6,h7,h8,h9,h10⟩
 ·simp
 ·omega
theorem tF {n:Nat} (h:n≤aN):JW .i64 (n:Nat):=by
 unfold aN at h;exact IntWalk.i64_in _ (by omega)
theorem Mg {t ty:TypeId} {ts:Array TypeId} {tl:List TypeId} (hts:ts.toList=t::tl) {d:TypeDesc} {x:AV} {u:Value} {n:Nat} (rl:Rel P m Z s.ob w) (hu:bD P m w Z x u) (ht:P.underlying t=some d) (e:acs s d x=some n):
  dh P m Z w s fr ((do pure (.value (← Builtin.len_ ts ty #[u])):Sem Next).run P w) (.int .i64 (n:Nat)) s:=by
 have h0:ts[0]? =some t:=by rw [← Array.getElem?_toList,hts]; rfl
 unfold acs at e;split at e
 ·cases e
  obtain ⟨rfl,h1⟩:=hu;exact .value rl (v':= .int .i64 _) (by simp [Builtin.len_,h0,aD ht,goInt]) ⟨rfl,tF h1⟩
 ·cases e
  obtain ⟨t0,q1,q2⟩:=hu;obtain ⟨a,c,rfl,h1⟩:=T7 (e:=t) q2;exact .value rl (v':= .int .i64 _) (by simp [Builtin.len_,h0,aD ht,goInt]) ⟨rfl,tF h1⟩
 ·rename_i e1 i
  split at e
  ·rename_i e2 l hrow
   cases e;obtain ⟨a,c,rfl,h1⟩:=T8 (rl.obj i _ (dD hrow)) hu;exact .value rl (v':= .int .i64 _) (by simp [Builtin.len_,h0,aD ht,goInt]) ⟨rfl,tF h1⟩
  ·cases e
 ·cases e
  obtain ⟨rfl,h1⟩:=hu;exact .value rl (v':= .int .i64 0) (by simp [Builtin.len_,h0,aD ht,goInt]) ⟨rfl,tF (by simp)⟩
 ·cases e
end Go.Sy
namespace Go.Sy
open Go.Sim (Tr aV bM bA bL br ef cx cY aW aD cJ bW aU cM fP)
variable {P:Program} {m:Mp} {Z:Nat→Prop} {w:World} {nt:Nat} {s:St} {a:Act} {R:Type} {fr:Nat} {K:AV→St→Option R} {r:R}
def fu (P:Program) (w:World) (Z:Nat→Prop) (e:TypeId) (cs:List Value) (l:List PV):Prop:=
 cs.length=l.length*(aI P e).length∧(∀ p∈l,shaped P e p)∧ ∀ i j p t',l[i]? =some p→(aI P e)[j]? =some t'→ ∃ u,cs[i*(aI P e).length+j]? =some u∧jM P w Z t' u (cellAt P e p j)
theorem HR {n i j k:Nat} (hi:i<n) (hj:j<k):i*k+j<n*k:=by
 have:(i+1)*k≤n*k:=Nat.mul_le_mul_right k hi;rw [Nat.add_mul] at this;omega
theorem fu.append {e:TypeId} {cs ds:List Value} {l q:List PV} (h:fu P w Z e cs l) (g:fu P w Z e ds q):fu P w Z e (cs++ds) (l++q):=by
 obtain ⟨h1,h2,h3⟩:=h;obtain ⟨g1,g2,g3⟩:=g;refine ⟨by rw [List.length_append,h1,g1,List.length_append,Nat.add_mul],fun p hp=>(List.mem_append.1 hp).elim (h2 p) (g2 p),fun i j p t' hi hj=> ?_⟩;have hjl:j<(aI P e).length:=(List.getElem?_eq_some_iff.1 hj).1;by_cases hil:i<l.length
 ·rw [List.getElem?_append_left hil] at hi
  obtain ⟨u,hu,hr⟩:=h3 i j p t' hi hj;exact ⟨u,by rw [List.getElem?_append_left (by rw [h1]; exact HR hil hjl)]; exact hu,hr⟩
 ·rw [List.getElem?_append_right (by omega)] at hi
  obtain ⟨u,hu,hr⟩:=g3 (i - l.length) j p t' hi hj;refine ⟨u, ?_,hr⟩;rw [List.getElem?_append_right (by
   rw [h1];have:=Nat.mul_le_mul_right (aI P e).length (show l.length≤i by omega);omega),h1]
  rw [← hu]
  congr 1
  have:i*(aI P e).length=l.length*(aI P e).length+(i - l.length)*(aI P e).length:=by rw [← Nat.add_mul]; congr 1; omega
  omega
theorem fu.mono {w':World} {Z':Nat→Prop} {e:TypeId} {cs:List Value} {l:List PV} (h:fu P w Z e cs l) (hw: ∀ b,Z b→w'.heap[b]? =w.heap[b]?) (hz: ∀ b,Z b→Z' b):fu P w' Z' e cs l:=
 ⟨h.1,h.2.1,fun i j p t' hi hj=>by obtain ⟨u,hu,hr⟩:=h.2.2 i j p t' hi hj; exact ⟨u,hu,hr.mono hw hz⟩⟩
theorem Vi {t e:TypeId} {v:Value} {l:List PV} (h:jM P w Z t v (.list l)) (ht:P.underlying t=some (.slice e)) (hsz:aV P e=some (aI P e).length): ∃ cs,fu P w Z e cs l∧ ∃ a c,v= .slice a l.length c∧ ∀ w2:World,w2.heap=w.heap→(Builtin.firstCells (aI P e).length l.length v).run P w2= .ok ⟨cs⟩ w2:=by
 generalize hp:PV.list l=p at h;cases h with
 |nil h3=>cases hp; exact ⟨[],⟨by simp,by simp,by simp⟩,_,_,rfl,fun w2 _=>by simp [Builtin.firstCells]⟩
 |sl h3 h4 h5 h6 h7 h8 uu h9 h10 h11=>
  cases hp;rename_i sp b off c;rw [ht] at h3;cases h3;by_cases hl0:l=[]
  ·subst hl0
   exact ⟨[],⟨by simp,by simp,by simp⟩,_,_,rfl,fun w2 _=>by
    have:=run_loadCells_list (P:=P) (w:=w2) ⟨b,off,sp⟩ [] (fun q v h=>by simp at h);simpa [Builtin.firstCells] using this⟩
  obtain rfl:sp=none:=h11 hl0;refine ⟨(List.range (l.length*(aI P e).length)).map (fun q=>uu (q/(aI P e).length) (q%(aI P e).length)),⟨by simp,h8,fun i j p t' hi hj=> ?_⟩,_,_,rfl,fun w2 hw2=> ?_⟩
  ·have hil:i<l.length:=(List.getElem?_eq_some_iff.1 hi).1
   have hjl:j<(aI P e).length:=(List.getElem?_eq_some_iff.1 hj).1;refine ⟨uu i j, ?_,h10 i j p t' hi hj⟩;rw [List.getElem?_map,List.getElem?_range (HR hil hjl)];have e1:(i*(aI P e).length+j)/(aI P e).length=i:=by rw [Nat.mul_comm,Nat.mul_add_div (by omega)]; simp [Nat.div_eq_of_lt hjl]
   have e2:(i*(aI P e).length+j)%(aI P e).length=j:=by rw [Nat.mul_comm,Nat.mul_add_mod]; exact Nat.mod_eq_of_lt hjl
   simp [e1,e2]
  ·have:=run_loadCells_list (P:=P) (w:=w2) ⟨b,off,none⟩ ((List.range (l.length*(aI P e).length)).map (fun q=>uu (q/(aI P e).length) (q%(aI P e).length))) (fun q v hq=>by
    rw [List.getElem?_map] at hq;have hlt:q<l.length*(aI P e).length:=by
     rcases Nat.lt_or_ge q (l.length*(aI P e).length) with h|h
     ·exact h
     ·rw [List.getElem?_eq_none (by simpa using h)] at hq; cases hq
    rw [List.getElem?_range hlt] at hq;cases hq;have hpos:0<(aI P e).length:=by
     rcases Nat.eq_zero_or_pos (aI P e).length with h|h
     ·rw [h] at hlt; omega
     ·exact h
    rw [qi,yF (w:=w) (by rw [hw2]), ←h9 (q/(aI P e).length) (q%(aI P e).length) ((Nat.div_lt_iff_lt_mul hpos).2 hlt) (Nat.mod_lt _ hpos)]
    congr 2
    rw [Nat.div_add_mod' q])
   rw [List.length_map,List.length_range] at this;simp [Builtin.firstCells,this]
 |_=>cases hp
theorem PT (b:ByteArray) {e:TypeId} (he:P.underlying e=some (.int .u8)) (hsz:aV P e=some (aI P e).length):fu P w Z e (b.data.toList.map fun x=> .int .u8 x.toNat) (ofStr b)∧ ∀ w2:World,(Builtin.firstCells (aI P e).length b.size (.string b)).run P w2= .ok ⟨b.data.toList.map fun x=> .int .u8 x.toNat⟩ w2:=by
 have Ve:isAgg P e=false:=by unfold isAgg bM; rw [he]
 have ht:=eT Ve;refine ⟨⟨by simp [ofStr,ht],fun p hp hh=>(by rw [Ve] at hh; cases hh),fun i j p t' hi hj=> ?_⟩,fun w2=> ?_⟩
 ·rw [ht] at hj ⊢
  cases j with
  |succ j=>simp at hj
  |zero=>
   simp at hj;subst hj;simp only [ofStr,List.getElem?_map] at hi;cases hb:b.data.toList[i]? with
   |none=>rw [hb] at hi; cases hi
   |some x=>
    rw [hb] at hi;cases hi;refine ⟨.int .u8 x.toNat,by simp [hb], ?_⟩;simp only [cellAt,Ve];refine .int he ?_;have:x.toNat<256:=UInt8.toNat_lt _;unfold JW IntKind.wrap;simp only [IntKind.bits,IntKind.signed];simp;omega
 ·simp only [Builtin.firstCells,Sem.run_pure]
  congr 1
  apply Array.toList_inj.1;rw [ByteArray.data_extract];simp [List.extract_eq_take_drop];have:b.data.size=b.size:=rfl;rw [List.take_of_length_le (by simp [this])]
theorem HS {e:TypeId} {l:List PV} {ad:Option (Nat×Nat)} {c:Nat} (h:HM P w Z e l ad c): ∃ cs,fu P w Z e cs l∧ ∀ w2:World,w2.heap=w.heap→(Builtin.firstCells (aI P e).length l.length (.slice (addrOf ad) l.length c)).run P w2= .ok ⟨cs⟩ w2:=by
 rcases h with ⟨rfl,rfl,rfl⟩|⟨b,o,rfl,hz,cc,ty,fz,h4,h5,h6,h7,h8,h9,h10,h11⟩
 ·exact ⟨[],⟨by simp,by simp,by simp⟩,fun w2 _=>by simp [Builtin.firstCells,addrOf]⟩
 ·have hle:l.length*(aI P e).length≤c*(aI P e).length:=Nat.mul_le_mul_right _ h8
  refine ⟨(cc.toList.drop o).take (l.length*(aI P e).length),⟨by simp; omega,h10,fun i j p t' hi hj=> ?_⟩,fun w2 hw2=> ?_⟩
  ·have hil:i<l.length:=(List.getElem?_eq_some_iff.1 hi).1
   have hjl:j<(aI P e).length:=(List.getElem?_eq_some_iff.1 hj).1;obtain ⟨u,hu,hr⟩:=h11 i j p t' hi hj;refine ⟨u, ?_,hr⟩;rw [List.getElem?_take,if_pos (HR hil hjl),List.getElem?_drop];simpa using hu
  ·have hlen:((cc.toList.drop o).take (l.length*(aI P e).length)).length=l.length*(aI P e).length:=by simp; omega
   have:=run_loadCells_list (P:=P) (w:=w2) ⟨b,o,none⟩ ((cc.toList.drop o).take (l.length*(aI P e).length)) (fun q v hq=>by
    rw [List.getElem?_take] at hq;split at hq
    ·rw [List.getElem?_drop] at hq
     rw [qi];simp [World.cell?,hw2,h4];simpa using hq
    ·cases hq)
   rw [hlen] at this;simp [Builtin.firstCells,addrOf,this]
theorem Al {u e:TypeId} {x:AV} {v:Value} {new:List PV} (rl:Rel P m Z s.ob w) (hv:bD P m w Z x v) (hsz:aV P e=some (aI P e).length) (e1:Vb P s (P.underlying u) e x=some new):
  ∃ cs,fu P w Z e cs new∧(Builtin.lenOf v).run P w= .ok new.length w∧(∀ w2:World,w2.heap=w.heap→(Builtin.firstCells (aI P e).length new.length v).run P w2= .ok ⟨cs⟩ w2)∧((∃ e2,P.underlying u=some (.slice e2))∨P.underlying u=some .string)∧new.length≤aN:=by
 unfold Vb at e1;split at e1
 ·rename_i e2 e' l hu
  split at e1
  ·rename_i hb; cases e1
   obtain rfl:=br hb;obtain ⟨t0,q1,q2⟩:=hv;obtain ⟨cs,g1,a0,c0,rfl,g2⟩:=Vi q2 q1 hsz;obtain ⟨_,_,_,g3⟩:=T7 (e:=e) q2;exact ⟨cs,g1,rfl,g2, .inl ⟨_,hu⟩,g3⟩
  ·cases e1
 ·rename_i e2 i hu
  split at e1
  ·rename_i e' l hrow
   split at e1
   ·rename_i hb; cases e1
    obtain rfl:=br hb;have ho:=rl.obj i _ (dD hrow);obtain ⟨_,_,_,g3⟩:=T8 ho hv;obtain ⟨a1,c1,d1,d2⟩:=ho;obtain rfl:=qW hv d1;obtain ⟨cs,g1,g2⟩:=HS d2;exact ⟨cs,g1,rfl,g2, .inl ⟨_,hu⟩,g3⟩
   ·cases e1
  ·cases e1
 ·rename_i e2 hu
  cases e1;obtain ⟨rfl,_⟩:=hv;exact ⟨[],⟨by simp,by simp,by simp⟩,rfl,fun w2 _=>by simp [Builtin.firstCells], .inl ⟨_,hu⟩,by simp⟩
 ·rename_i b hu
  split at e1
  ·rename_i he; cases e1
   obtain ⟨rfl,g3⟩:=hv;obtain ⟨g1,g2⟩:=PT (w:=w) (Z:=Z) b he hsz;have hl:(ofStr b).length=b.size:=by simp [ofStr]
   exact ⟨_,g1,by rw [hl]; rfl,fun w2 _=>by rw [hl]; exact g2 w2, .inr hu,by rw [hl]; exact g3⟩
  ·cases e1
 ·cases e1
theorem Rel.X5 {ob La:Lay AO} {w':World} (rl:Rel P m Z ob w) {fr:Nat} (hm:m fr=none) {o:AO} {pl:Pl} (qY: ∀ j,look La j=if fr=j then some o else look ob j) (hap: ∀ j o p b,look ob j=some o→m j=some p→af p=some b→af pl≠some b)
  (hs:w.heap.size=w'.heap.size) (hh: ∀ q,af pl≠some q→w'.heap[q]? =w.heap[q]?) (ho:gZ P (m.up fr pl) w' Z fr o):Rel P (m.up fr pl) Z La w':=by
 have hz: ∀ b,Z b→af pl≠some b:=fun b hb h=>(ho.eC (Mp.bg ..) h).2 hb
 refine ⟨fun b hb=>by have:=rl.zb b hb; omega,fun j o2 hj=> ?_,fun i j o1 o2 p q b hi hj hp hq h1 h2=> ?_⟩
 ·rw [qY] at hj
  by_cases e:fr=j
  ·rw [if_pos e] at hj; cases hj; subst e; exact ho
  ·rw [if_neg e] at hj
   exact (rl.obj j o2 hj).mono (.up hm pl) (fun c hc=>hh c (hz c hc)) (fun _ h=>h) fun q c hq hc=>⟨hh c (hap j _ q c hj hq hc),fun h=>h⟩
 ·rw [qY] at hi hj
  unfold Mp.up at hp hq;by_cases ei:fr=i
  ·by_cases ej:fr=j
   ·rw [← ei, ←ej]
   ·rw [if_neg ej] at hj
    rw [if_pos ei.symm] at hp;rw [if_neg (Ne.symm ej)] at hq;cases hp;exact absurd h1 (hap j _ q b hj hq h2)
  ·rw [if_neg ei] at hi
   rw [if_neg (Ne.symm ei)] at hp;by_cases ej:fr=j
   ·rw [if_pos ej.symm] at hq
    cases hq;exact absurd h2 (hap i _ p b hi hp h1)
   ·rw [if_neg ej] at hj
    rw [if_neg (Ne.symm ej)] at hq;exact rl.inj i j o1 o2 p q b hi hj hp hq h1 h2
theorem Rel.drew {ob:Lay AO} (rl:Rel P m Z ob w):Rel P m Z ob {w with drawn:=w.drawn+1}:=
 ⟨rl.zb,fun i o hi=>(rl.obj i o hi).mono (.refl m) (fun _ _=>rfl) (fun _ h=>h) fun p b hp hb=>⟨rfl,fun h=>h⟩,rl.inj⟩
theorem BQ {e:TypeId} {b:Nat} (h:acu P e=some b): ∃ z,fP P e=some b∧bA P e=some z∧aV P e=some (aI P e).length∧z.cells.size=(aI P e).length∧bL z=true:=by
 unfold acu at h;split at h
 ·rename_i b0 z hb hz hw
  split at h
  ·rename_i h1 h2
   cases h;refine ⟨z,hb,hz,pV hw, ?_,h1⟩;have:=Sim.lE h1;rw [← br h2, ←this]; simp
  ·cases h
 ·cases h
theorem HT {ob La:Lay AO} (rl:Rel P m Z ob w) {fr:Nat} (hm:m fr=none) {t u e ty:TypeId} {ts:Array TypeId} {tl:List TypeId} (hts:ts.toList=t::u::tl) (ht:P.underlying t=some (.slice e))
  {l new:List PV} {ad:Option (Nat×Nat)} {c:Nat} (hrow:HM P w Z e l ad c) (hap: ∀ j o p b,look ob j=some o→m j=some p→af p=some b→ad.map (·.1)≠some b) {x:Value} {cs:List Value}
  (hcs:fu P w Z e cs new) (hlen:(Builtin.lenOf x).run P w= .ok new.length w) (X6: ∀ w2:World,w2.heap=w.heap→(Builtin.firstCells (aI P e).length new.length x).run P w2= .ok ⟨cs⟩ w2) (hu:(∃ e2,P.underlying u=some (.slice e2))∨P.underlying u=some .string)
  (hroom:roomy P e (l.length+new.length)=true) (qY: ∀ j,look La j=if fr=j then some (.row e (l++new)) else look ob j):
  ∃ pl v w',(Builtin.append_ ts ty #[.slice (addrOf ad) l.length c,x]).run P w= .ok v w'∧(fH Z w w'∧(∀ q,q<w.heap.size→ad.map (·.1)≠some q→w'.heap[q]? =w.heap[q]?)∧ ∀ b,af pl=some b→w.heap.size≤b∨ad.map (·.1)=some b)∧Rel P (m.up fr pl) Z La w'∧bD P (m.up fr pl) w' Z (.own fr) v:=by
 unfold roomy at hroom;split at hroom
 ·rename_i bytes hB
  obtain ⟨z,hb,hz,hsz,hzs,hna⟩:=BQ hB;have hroom:(l.length+new.length)*bytes≤140737488355328∧l.length+new.length≤140737488355328:=by
   simp only [dO,Bool.and_eq_true] at hroom;exact ⟨cx hroom.1,cx hroom.2⟩
  have hp:Sim.lB P (t::u::tl)=true:=by
   unfold Sim.lB;rcases hu with ⟨e2,h⟩|h<;>simp [h]
  have hone: ∀ v∈cs,v.oneCell'=true:=by
   intro v hv;obtain ⟨q,hq⟩:=List.mem_iff_getElem?.1 hv;have hlt:q<new.length*(aI P e).length:=by
    have:=(List.getElem?_eq_some_iff.1 hq).1;rw [hcs.1] at this; exact this
   have hpos:0<(aI P e).length:=by
    rcases Nat.eq_zero_or_pos (aI P e).length with h|h
    ·rw [h] at hlt; omega
    ·exact h
   have h1:q/(aI P e).length<new.length:=(Nat.div_lt_iff_lt_mul hpos).2 hlt;have h2:=Nat.mod_lt q hpos;obtain ⟨u,hu,hr⟩:=hcs.2.2 (q/(aI P e).length) (q%(aI P e).length) _ _ (List.getElem?_eq_getElem h1) (List.getElem?_eq_getElem h2);rw [Nat.div_add_mod'] at hu;rw [hu] at hq; cases hq;exact hr.one
  have hZb: ∀ {b:Nat},ad.map (·.1)=some b→ ¬ Z b∧b<w.heap.size:=by
   intro b hb;rcases hrow with ⟨rfl,_⟩|⟨b',o,rfl,Na,cc,ty',fz,h4,_⟩
   ·cases hb
   ·simp at hb; subst hb; exact ⟨Na,Sim.getElem?_lt' h4⟩
  have ZX:(l++new).length≤aN:=by unfold aN; simp; omega
  by_cases hle:l.length+new.length≤c
  ·
   rcases hrow with ⟨rfl,rfl,rfl⟩|⟨b,o,rfl,Na,cc,ty',fz,h4,h5,h6,h7,h8,h9,h10,h11⟩
   ·have hn0:new=[]:=by
     simp at hle; exact hle
    subst hn0;refine ⟨.row none 0 0, .slice none 0 0,w, ?_,⟨.refl Z w,fun _ _ _=>rfl,fun b hb=>(by cases hb)⟩, ?_,⟨_,Mp.bg ..,rfl⟩⟩
    ·have:=Sim.eR (P:=P) (w:=w) (w':=w) (ty:=ty) hts ht hsz hp (sl:=0) (sc:=0) (n:=0) (base:=none) (new':=cs) hlen (by omega) (X6 w rfl) (by rfl)
     simpa [addrOf] using this
    ·exact rl.X5 hm qY (fun j o p b _ _ _ h=>by cases h) rfl (fun _ _=>rfl) ⟨none,0,Mp.bg .., .inl ⟨rfl,rfl,rfl⟩⟩
   ·have hmul:(l.length+new.length)*(aI P e).length≤c*(aI P e).length:=Nat.mul_le_mul_right _ hle
    rw [Nat.add_mul] at hmul;obtain ⟨w',k1,k2,k3,k4,k5,k6,k7⟩:=lJ (P:=P) cs (o+l.length*(aI P e).length) 0 w cc.toList (b:=b) (by simpa using h4) (by simpa using h5) (by simp [hcs.1]; omega) hone;have hkeep:fH Z w w':=⟨k5,k6,k7,Nat.le_of_eq k4,fun q hq=>k3 q fun e=>Na (e ▸ hq)⟩;refine ⟨.row (some (b,o)) (l++new).length c, .slice (some ⟨b,o,none⟩) (l.length+new.length) c,w', ?_,⟨hkeep,fun q _ hq=>k3 q fun e=>hq (by rw [e]; rfl),fun b' hb=> .inr hb⟩, ?_,⟨_,Mp.bg ..,by simp [acA,addrOf]⟩⟩
    ·have:=Sim.eR (P:=P) (w:=w) (w':=w') (ty:=ty) hts ht hsz hp (sl:=l.length) (sc:=c) (n:=new.length) (base:=some ⟨b,o,none⟩) (new':=cs) hlen hle (X6 w rfl) (by show (storeCells (Addr.add ⟨b,o,none⟩ (l.length*(aI P e).length)) cs).run P w=_; rw [qi]; exact k1)
     simpa [addrOf] using this
    ·refine rl.X5 hm qY (fun j o2 p b' h1 h2 h3 h=>hap j o2 p b' h1 h2 h3 h) k4 (fun q hq=>k3 q fun e=>hq (by rw [e]; rfl)) ⟨some (b,o),c,Mp.bg .., .inr ⟨b,o,rfl,Na,_,ty',fz,k2, ?_,h6, ?_,by simpa using hle,ZX,fun p hp=>(List.mem_append.1 hp).elim (h10 p) (hcs.2.1 p), ?_⟩⟩
     ·refine cast (congrArg (soft · fz) ?_) h5
      simp [hcs.1]; omega
     ·simp [hcs.1]; omega
     ·have hold:fu P w Z e ((cc.toList.drop o).take (l.length*(aI P e).length)) l:=by
       refine ⟨by simp; omega,h10,fun i j p t' hi hj=> ?_⟩;obtain ⟨u,hu,hr⟩:=h11 i j p t' hi hj;refine ⟨u, ?_,hr⟩;rw [List.getElem?_take,if_pos (HR (List.getElem?_eq_some_iff.1 hi).1 (List.getElem?_eq_some_iff.1 hj).1),List.getElem?_drop];simpa using hu
      intro i j p t' hi hj;obtain ⟨u,hu,hr⟩:=(hold.append hcs).2.2 i j p t' hi hj;refine ⟨u, ?_,hr.mono hkeep.heap fun _ h=>h⟩;rw [← hu];have hlt:i*(aI P e).length+j<(l.length+new.length)*(aI P e).length:=by
       have:=(List.getElem?_eq_some_iff.1 hi).1;rw [List.length_append] at this;exact HR this (List.getElem?_eq_some_iff.1 hj).1
      rw [Nat.add_mul] at hlt;simp only [List.getElem?_toArray,Nat.add_zero,List.getElem?_append,List.length_append,List.length_take,List.length_drop,Array.length_toList,hcs.1,List.getElem?_take,List.getElem?_drop];by_cases a1:i*(aI P e).length+j<l.length*(aI P e).length
      ·rw [if_pos (by omega),if_pos (by omega),if_pos (by omega),if_pos (by omega),if_pos (by omega)]
      ·rw [if_pos (by omega),if_neg (by omega),if_neg (by omega)]
       congr 1; omega
  ·
   obtain ⟨os,g1,g2⟩:=HS hrow;have hfit:(l.length+new.length)*bytes≤140737488355328:=hroom.1;have hrun:=Sim.s_ (P:=P) (w:=w) (ty:=ty) hts ht hsz hb hz hp (sl:=l.length) (sc:=c) (n:=new.length) (base:=addrOf ad) (x':=x) (old':=os) (new':=cs) hlen hle hfit (fun hh h0=>by have:=hroom.2; omega) (X6 w.drew rfl) (g2 w.drew rfl);have hge:=Sim.grownCap_ge w (l.length+new.length) c e;generalize hcap:grownCap w (l.length+new.length) c e=cap at hrun hge;have hrd:Rel P m Z ob w.drew:=rl.drew;have hkd:fH Z w w.drew:= .drew Z w;have hka:=fH.alloc hrd (.cells (⟨os⟩++⟨cs⟩++Builtin.zeroCells z.cells (cap - (l.length+new.length))) e);have hkeep:=hkd.trans hka fun _ h=>h
   refine ⟨.row (some (w.heap.size,0)) (l++new).length cap,_,_,hrun,⟨hkeep,fun q hq _=>RowKit.Below.heap_alloc _ _ _ hq,fun b hb=>by cases hb; exact .inl (Nat.le_refl _)⟩, ?_,⟨_,Mp.bg ..,by simp [acA,addrOf]⟩⟩;have hall:=g1.append hcs;refine hrd.alloc hm qY rfl ⟨some (w.heap.size,0),cap,Mp.bg .., .inr ⟨w.heap.size,0,rfl,fun h=>absurd (rl.zb _ h) (Nat.lt_irrefl _),_,e,(0,0),yG _ _,DK _,hsz, ?_,by simpa using hge,ZX,hall.2.1, ?_⟩⟩
   ·have h1:=hall.1
    simp only [List.length_append] at h1;simp only [Nat.zero_add,Array.size_append,Sim.wQ,hzs,List.size_toArray,List.length_append] at h1 ⊢;rw [h1, ←Nat.add_mul];exact Nat.mul_le_mul_right _ (by omega)
   ·intro i j p t' hi hj
    obtain ⟨u,hu,hr⟩:=hall.2.2 i j p t' hi hj;refine ⟨u, ?_,hr.mono hkeep.heap fun _ h=>h⟩;have hlt:=(List.getElem?_eq_some_iff.1 hu).1;rw [Nat.zero_add,Array.getElem?_append_left (by simpa using hlt)];simpa using hu
 ·cases hroom
end Go.Sy
namespace Go.Sy
open Go.Sim (Tr aV bM bA bL br ef cx cY aW aD cJ bW aU cM fP)
variable {P:Program} {m:Mp} {Z:Nat→Prop} {w:World} {nt:Nat} {s:St} {a:Act} {R:Type} {fr:Nat} {K:AV→St→Option R} {r:R}
theorem HU {e:TypeId} {n:Nat} (h:roomy P e n=true):aV P e=some (aI P e).length:=by
 unfold roomy at h;split at h
 ·rename_i b hb; obtain ⟨z,_,_,h1,_⟩:=BQ hb; exact h1
 ·cases h
theorem Dj {ty:TypeId} {ts:Array TypeId} {b x:AV} {u v:Value} (rl:Rel P m Z s.ob w) (hm:m fr=none) (hu:bD P m w Z b u) (hv:bD P m w Z x v) (e:yB P s fr K ts.toList b x=some r):
  ∃ q s',K q s'=some r∧dh P m Z w s fr ((do pure (.value (← Builtin.append_ ts ty #[u,v])):Sem Next).run P w) q s':=by
 unfold yB at e;split at e
 ·rename_i l0 t ut tl hts
  split at e
  ·rename_i el ht
   split at e
   ·rename_i new hnew
    split at e
    ·
     obtain ⟨h1,h2⟩:=cC e;have hsz:=HU h1;obtain ⟨cs,g1,g2,g3,g4,g5⟩:=Al rl hv hsz hnew;unfold newRow at h2;split at h2
     ·rename_i ob qY
      obtain ⟨p1,p2⟩:=bX qY;obtain ⟨rfl,_⟩:=hu;obtain ⟨pl,q,w',k1,k2,k3,k4⟩:=HT (ad:=none) (c:=0) (l:=[]) (ty:=ty) rl hm hts ht (.inl ⟨rfl,rfl,rfl⟩) (fun j o p b _ _ _ h=>by cases h) g1 g2 g3 g4 (by simpa using h1) (La:=ob) (by simpa using p2);refine ⟨_,_,h2,_,Z,q,w', .inl (aU (by simpa [addrOf] using k1)),⟨.up hm _,fun i hi=>Mp.fR m _ hi,fun _ h=>h,k2.1,fun q hq _=>k2.2.1 q hq (by simp),fun _ h=> .inl h,fun p b hp hb=>by
       rw [Mp.bg] at hp; cases hp;rcases k2.2.2 b hb with h|h
       ·exact .inr (.inl h)
       ·cases h⟩,k3,k4,rfl,rfl,p1⟩
     ·cases h2
    ·rename_i i
     split at e
     ·rename_i e' l BE hrow aao
      split at e
      ·rename_i hb
       obtain rfl:=br hb;obtain ⟨h1,h2⟩:=cC e;have hsz:=HU h1;obtain ⟨cs,g1,g2,g3,g4,g5⟩:=Al rl hv hsz hnew;unfold newRow at h2;split at h2
       ·rename_i ob qY
        obtain ⟨p1,p2⟩:=bX aao;obtain ⟨q1,q2⟩:=bX qY;have hi:=dD hrow;obtain ⟨a1,c1,d1,d2⟩:=rl.obj i _ hi;obtain rfl:=qW hu d1;have f1:=d1;have rl1:Rel P m Z BE w:=⟨rl.zb,fun j o hj=>by
         rw [p2] at hj;split at hj
         ·cases hj
         ·exact rl.obj j o hj,fun j1 j2 o1 o2 p q b pP hj2=>by
         rw [p2] at pP hj2;split at pP
         ·cases pP
         ·split at hj2
          ·cases hj2
          ·exact rl.inj j1 j2 o1 o2 p q b pP hj2⟩
        obtain ⟨pl,q,w',k1,k2,k3,k4⟩:=HT (ad:=a1) (c:=c1) (l:=l) (ty:=ty) rl1 hm hts ht d2 (fun j o p b hj hp hb h=>by
         rw [p2] at hj;split at hj
         ·cases hj
         ·rename_i hne
          exact hne (rl.inj i j _ _ _ p b hi hj f1 hp h hb)) g1 g2 g3 g4 h1 (La:=ob) q2
        refine ⟨_,_,h2,_,Z,q,w', .inl (aU k1),⟨.up hm _,fun i hi=>Mp.fR m _ hi,fun _ h=>h,k2.1,fun q hq hap=>k2.2.1 q hq fun e=>hap i _ _ hi f1 e,fun _ h=> .inl h,fun p b hp hb=>by
         rw [Mp.bg] at hp; cases hp;rcases k2.2.2 b hb with h|h
         ·exact .inr (.inl h)
         ·exact .inr (.inr ⟨i,_,_,hi,f1,h⟩)⟩,k3,k4,rfl,rfl,p1.trans q1⟩
       ·cases h2
      ·cases e
     ·cases e
    ·cases e
   ·cases e
  ·cases e
 ·cases e
theorem aap {lo:Int} {n:Nat} (h:bp lo (n+1)=true):0≤lo∧lo≤n:=by
 obtain ⟨h1,h2⟩:=uW h;exact ⟨h1,by omega⟩
def X7 (o:Option Int) (v:Option Value):Prop:=(o=none∧v=none)∨ ∃ k n,o=some n∧v=some (.int k n)
theorem HV (rt:bU P m w Z nt s.tm a.tmps) {x:Option Operand} {o:Option Int} (e:aak s x=some o):X7 o (x.map a.eval):=by
 unfold aak at e;split at e
 ·cases e; exact .inl ⟨rfl,rfl⟩
 ·split at e
  ·rename_i k n hx; cases e
   obtain ⟨h1,_⟩:=az rt hx;exact .inr ⟨k,n,rfl,by simp [h1]⟩
  ·cases e
theorem gh {isSlice:Bool} {len cap:Nat} {lo hi:Option Int} {vlo vhi:Option Value} (hlo:X7 lo vlo) (hhi:X7 hi vhi) (h1:0≤lo.getD 0∧lo.getD 0≤hi.getD len) (h2:0≤hi.getD len∧hi.getD len≤len) (hc:len≤cap):
  (Instr.sliceBounds isSlice len cap vlo vhi none).run P w= .ok ((lo.getD 0).toNat,(hi.getD len).toNat,cap) w:=by
 rcases hlo with ⟨rfl,rfl⟩|⟨k,n,rfl,rfl⟩<;>rcases hhi with ⟨rfl,rfl⟩|⟨k',n',rfl,rfl⟩<;>simp only [Option.getD_some,Option.getD_none] at h1 h2 ⊢
 ·simp [Instr.sliceBounds]
 ·have e1:n'≤(cap:Int):=by omega
  simp [Instr.sliceBounds,Instr.sliceBound,asIntOf,h2.1,e1]
 ·have e1:n≤(len:Int):=h1.2
  simp [Instr.sliceBounds,Instr.sliceBound,asIntOf,h1.1,e1]
 ·have e1:n'≤(cap:Int):=by omega
  have e2:n≤(n'.toNat:Int):=by omega
  simp only [Instr.sliceBounds,Instr.sliceBound,asIntOf,Sem.run_bind,Sem.run_pure,Result.andThen_ok,if_pos (⟨h2.1,e1⟩:0≤n'∧n'≤(cap:Int)),if_pos (⟨h1.1,e2⟩:0≤n∧n≤(n'.toNat:Int))]
theorem GX {t:TypeId} {d:TypeDesc} {x:AV} {u:Value} {lo hi:Option Int} {vlo vhi:Option Value} (rl:Rel P m Z s.ob w) (hu:bD P m w Z x u) (hlo:X7 lo vlo) (hhi:X7 hi vhi) (ht:P.underlying t=some d) (e:uE P s K d x lo hi=some r):
  ∃ v s',K v s'=some r∧dh P m Z w s fr ((do pure (.value (← Instr.sliceAt t u vlo vhi none)):Sem Next).run P w) v s':=by
 unfold uE at e;split at e
 ·rename_i b
  obtain ⟨h1,h2⟩:=cC e;simp only [Bool.and_eq_true] at h1;obtain ⟨g1,g2⟩:=aap h1.1;obtain ⟨g3,g4⟩:=aap h1.2;obtain ⟨rfl,g5⟩:=hu;have g2':lo.getD 0≤hi.getD (b.size:Int):=by omega
  have hb:=gh (P:=P) (w:=w) (isSlice:=false) (cap:=b.size) hlo hhi ⟨g1,g2'⟩ ⟨g3,g4⟩ (Nat.le_refl _);refine ⟨_,_,h2, .value rl (v':= .string _) ?_ ⟨rfl, ?_⟩⟩
  ·have A7:=hb
   simp only [Instr.sliceAt,Sem.run_bind,aD ht,Result.andThen_ok,Instr.slice,A7,Option.isSome_none,Bool.false_eq_true,if_false,Sem.run_pure]
  ·have:(b.extract (lo.getD 0).toNat (hi.getD (b.size:Int)).toNat).size≤b.size:=by
    rw [ByteArray.size_extract]; omega
   omega
 ·rename_i e1 e2 l
  split at e
  ·rename_i hb
   simp only [Bool.and_eq_true] at hb;obtain ⟨hb,hwide⟩:=hb;obtain rfl:=br hb;obtain ⟨h1,h2⟩:=cC e;simp only [Bool.and_eq_true] at h1;obtain ⟨g1,g2⟩:=aap h1.1;obtain ⟨g3,g4⟩:=aap h1.2;obtain ⟨t0,q1,q2⟩:=hu;have g2':lo.getD 0≤hi.getD (l.length:Int):=by omega
   have hlen:(Sy.sub l (lo.getD 0) (hi.getD (l.length:Int))).length=(hi.getD (l.length:Int)).toNat - (lo.getD 0).toNat:=by
    simp [Sy.sub]; omega
   generalize hp:PV.list l=p at q2;cases q2 with
   |nil h3=>
    cases hp;have hb:=gh (P:=P) (w:=w) (isSlice:=true) (len:=0) (cap:=0) hlo hhi ⟨g1,g2'⟩ ⟨g3,g4⟩ (Nat.le_refl _);simp at g4;have e1:(hi.getD 0).toNat=0:=by simp at g3 g4; omega
    have e2:(lo.getD 0).toNat=0:=by simp at g2'; omega
    refine ⟨_,_,h2, .value rl (v':= .slice none 0 0) ?_ ⟨t0,q1, ?_⟩⟩
    ·simp only [List.length_nil,Int.ofNat_zero,Int.natCast_zero,e1,e2] at hb
     simp only [Instr.sliceAt,Sem.run_bind,aD ht,Result.andThen_ok,Instr.slice,hb,aW (pV hwide),Sem.run_pure];simp
    ·simp only [Sy.sub,List.take_nil,List.drop_nil]
     exact .nil q1
   |sl h3 h4 h5 h6 h7 h8 uu h9 h10 h11=>
    cases hp;rename_i sp bk off c;rw [q1] at h3;cases h3;have hb:=gh (P:=P) (w:=w) (isSlice:=true) (cap:=c) hlo hhi ⟨g1,g2'⟩ ⟨g3,g4⟩ h5;generalize agP:(lo.getD 0).toNat=L at*;generalize agQ:(hi.getD (l.length:Int)).toNat=H at*;have hLH:L≤H:=by omega
    have hHl:H≤l.length:=by omega
    have hsub:Sy.sub l (lo.getD 0) (hi.getD (l.length:Int))=(l.take H).drop L:=by simp only [Sy.sub,agP,agQ]
    by_cases hl0:l=[]
    ·subst hl0
     obtain rfl:H=0:=by simpa using hHl
     obtain rfl:L=0:=by omega
     refine ⟨_,_,h2, .value rl (v':= .slice (some ⟨bk,off,sp⟩) 0 c) ?_ ⟨t0,q1, ?_⟩⟩
     ·simp only [Instr.sliceAt,Sem.run_bind,aD ht,Result.andThen_ok,Instr.slice,hb,aW h7,Sem.run_pure]
      simp [Addr.add]
     ·rw [hsub]
      exact .sl q1 (fun x1 x2=>by simp at x1) (by simp) (by simp) h7 (fun p hp=>by simp at hp) uu (fun i j h=>by simp at h) (fun i j p t' h=>by simp at h) (fun h=>absurd rfl h)
    obtain rfl:sp=none:=h11 hl0;refine ⟨_,_,h2, .value rl (v':= .slice (some ⟨bk,if c=L then off else off+L*(aI P e1).length,none⟩) (H - L) (c - L)) ?_ ⟨t0,q1, ?_⟩⟩
    ·simp only [Instr.sliceAt,Sem.run_bind,aD ht,Result.andThen_ok,Instr.slice,hb,aW h7,Sem.run_pure]
     by_cases hc:c=L
     ·simp [hc]
     ·simp [hc,qi]
    ·rw [hsub]
     have C5:((l.take H).drop L).length=H - L:=by simp; omega
     rw [← C5];refine .sl q1 (fun x1 x2=>h4 (by simp at x1; omega) x2) (by rw [C5]; omega) (by rw [C5]; omega) h7 (fun p hp=>h8 p (List.mem_of_mem_take (List.mem_of_mem_drop hp))) (fun i j=>uu (L+i) j) ?_ ?_ (fun _=>rfl)
     ·intro i j hi' hj
      rw [C5] at hi';have: ¬ c=L:=by omega
      rw [if_neg this, ←h9 (L+i) j (by omega) hj]
      congr 2
      rw [Nat.add_mul]; omega
     ·intro i j p t' hi' hj
      rw [List.getElem?_drop,List.getElem?_take] at hi';split at hi'
      ·exact h10 _ _ _ _ hi' hj
      ·cases hi'
   |_=>cases hp
  ·cases e
 ·cases e
end Go.Sy
namespace Go.Sy
open Go.Sim (Tr aV bM bA bL br ef cx cY aW aD cJ)
variable {P:Program} {m:Mp} {Z:Nat→Prop} {w:World}
def fI (P:Program) (m:Mp) (w:World) (Z:Nat→Prop) (t:TypeId) (x:Value) (la:List AV):Prop:=match P.underlying t with
 |some (.struct _)=> ∃ xs,x= .agg ⟨xs⟩∧bu P m w Z la xs
 |_=> ∀ a,la=[a]→bD P m w Z a x
theorem Lc {D:Nat} {g:TypeId→List AV→List AV→Option Bool} (hg: ∀ t la lb q,g t la lb=some q→(∃ fs,P.underlying t=some (.struct fs))∨(bM P t=some false∧ ∃ a b,la=[a]∧lb=[b])) (ih: ∀ t la lb q,g t la lb=some q→ ∀ x y,fI P m w Z t x la→fI P m w Z t y lb→(Op.equalIn D t x y).run P w= .ok q w) {la lb:List AV} {xs ys:List Value} (hx:bu P m w Z la xs) (hy:bu P m w Z lb ys):
  ∀ {fs:List Field} {q:Bool},UJ P g fs la lb=some q→(Op.eqFields D ⟨xs⟩ ⟨ys⟩ fs).run P w= .ok q w
 |[],q,h=>by simp only [UJ,Option.some.injEq] at h; subst h; simp [Op.eqFields]
 |f::fs,q,h=>by
  simp only [UJ] at h;split at h
  ·rename_i n hn hsz
   split at h
   ·rename_i p q2 h1 h2
    cases h;have hne:f.name≠ "_" :=by simpa using hn
    have aep:=Lc hg ih hx hy h2;have key: ∃ u v,(part f.type ⟨xs⟩ f.offset).run P w= .ok u w∧(part f.type ⟨ys⟩ f.offset).run P w= .ok v w∧fI P m w Z f.type u ((la.drop f.offset).take n)∧fI P m w Z f.type v ((lb.drop f.offset).take n):=by
     rcases hg _ _ _ _ h1 with ⟨gs,hs⟩|⟨ha,a,b,e1,e2⟩
     ·have ha:bM P f.type=some true:=by unfold bM; rw [hs]
      refine ⟨.agg ⟨(xs.drop f.offset).take n⟩, .agg ⟨(ys.drop f.offset).take n⟩, ?_, ?_, ?_, ?_⟩
      ·simp only [part,Sem.run_bind,cJ ha,Result.andThen_ok,if_true,aW hsz,Sem.run_pure]
       congr 2
       apply Array.ext';simp [List.extract_eq_take_drop]
      ·simp only [part,Sem.run_bind,cJ ha,Result.andThen_ok,if_true,aW hsz,Sem.run_pure]
       congr 2
       apply Array.ext';simp [List.extract_eq_take_drop]
      ·unfold fI; rw [hs]; exact ⟨_,rfl,uR _ (uS _ hx)⟩
      ·unfold fI; rw [hs]; exact ⟨_,rfl,uR _ (uS _ hy)⟩
     ·have one: ∀ {l:List AV} {vs:List Value} {a:AV},bu P m w Z l vs→(l.drop f.offset).take n=[a]→ ∃ u,vs[f.offset]? =some u∧bD P m w Z a u:=by
       intro l vs a hl he;have h0:((l.drop f.offset).take n)[0]? =some a:=by rw [he]; rfl
       rw [List.getElem?_take] at h0;split at h0
       ·rw [List.getElem?_drop,Nat.add_zero] at h0
        exact pU hl _ a h0
       ·cases h0
      obtain ⟨u,u1,u2⟩:=one hx e1;obtain ⟨v,v1,v2⟩:=one hy e2;have hnot: ∀ gs,P.underlying f.type≠some (.struct gs):=fun gs hs=>by unfold bM at ha; rw [hs] at ha; cases ha
      have cells: ∀ {x:Value} {l:List AV} {a:AV},l=[a]→bD P m w Z a x→fI P m w Z f.type x l:=by
       intro x l a hl hr;unfold fI;split
       ·rename_i gs hs; exact absurd hs (hnot gs)
       ·intro b hb; rw [hl] at hb; cases hb; exact hr
      refine ⟨u,v, ?_, ?_,cells e1 u2,cells e2 v2⟩
      ·have:(⟨xs⟩:Array Value)[f.offset]? =some u:=by simpa using u1
       simp [part,cJ ha,this]
      ·have:(⟨ys⟩:Array Value)[f.offset]? =some v:=by simpa using v1
       simp [part,cJ ha,this]
    obtain ⟨u,v,k1,k2,k3,k4⟩:=key;have k5:=ih _ _ _ _ h1 u v k3 k4;simp only [Op.eqFields,ne_eq,hne,not_false_eq_true,if_true,Sem.run_bind,k1,k2,k5,Result.andThen_ok];cases p with
    |true=>simpa using aep
    |false=>simp
   ·cases h
  ·cases h
theorem Vj: ∀ {d:Nat} {t:TypeId} {la lb:List AV} {q:Bool},eqV P d t la lb=some q→(∃ fs,P.underlying t=some (.struct fs))∨(bM P t=some false∧ ∃ a b,la=[a]∧lb=[b])
 |0,_,_,_,_,h=>by cases h
 |d+1,t,la,lb,q,h=>by
  simp only [eqV] at h;split at h
  ·rename_i k hu
   split at h
   ·exact .inr ⟨by unfold bM; rw [hu],_,_,rfl,rfl⟩
   ·cases h
  ·rename_i hu
   split at h
   ·exact .inr ⟨by unfold bM; rw [hu],_,_,rfl,rfl⟩
   ·cases h
  ·rename_i hu
   split at h
   ·exact .inr ⟨by unfold bM; rw [hu],_,_,rfl,rfl⟩
   ·cases h
  ·rename_i fs hu
   exact .inl ⟨fs,hu⟩
  ·cases h
theorem Ld: ∀ (d:Nat) (D:Nat),d≤D→ ∀ (t:TypeId) (la lb:List AV) (q:Bool),eqV P d t la lb=some q→ ∀ x y,fI P m w Z t x la→fI P m w Z t y lb→(Op.equalIn D t x y).run P w= .ok q w
 |0,_,_,_,_,_,_,h=>by cases h
 |d+1,0,hD,_,_,_,_,_=>by omega
 |d+1,D+1,hD,t,la,lb,q,h=>by
  intro x y hx hy;simp only [eqV] at h;split at h
  ·rename_i k hu
   split at h
   ·split at h
    ·rename_i hk
     obtain rfl:=of_decide_eq_true hk;cases h;unfold fI at hx hy;rw [hu] at hx hy;obtain ⟨rfl,_⟩:=hx _ rfl;obtain ⟨rfl,_⟩:=hy _ rfl;exact run_equalIn_int w D t _ k _ _ hu
    ·cases h
   ·cases h
  ·rename_i hu
   split at h
   ·cases h
    unfold fI at hx hy;rw [hu] at hx hy;obtain rfl:=hx _ rfl;obtain rfl:=hy _ rfl;exact run_equalIn_bool' w D t _ _ hu
   ·cases h
  ·rename_i hu
   split at h
   ·cases h
    unfold fI at hx hy;rw [hu] at hx hy;obtain ⟨rfl,_⟩:=hx _ rfl;obtain ⟨rfl,_⟩:=hy _ rfl;rw [run_equalIn_string w D t _ _ hu,ByteArray.toList_eq,ByteArray.toList_eq]
    congr 1
    unfold aM;rw [Bool.beq_eq_decide_eq]
   ·cases h
  ·rename_i fs hu
   split at h
   ·rename_i hst
    unfold fI at hx hy;rw [hu] at hx hy;obtain ⟨xs,rfl,h1⟩:=hx;obtain ⟨ys,rfl,h2⟩:=hy;have hf:P.fieldsOf t=fs:=by unfold Program.fieldsOf; rw [hu]
    rw [run_equalIn_struct w D t ⟨xs⟩ ⟨ys⟩ (by rw [hf]; exact hu) hst,hf];exact Lc (fun t la lb q h=>Vj h) (fun t la lb q h x y a b=>Ld d D (by omega) t la lb q h x y a b) h1 h2 h
   ·cases h
  ·cases h
end Go.Sy
namespace Go.Sy
open Go.Sim (Tr aV bM bA bL br ef cx cY aW aD cJ bW aU cM fP)
variable {P:Program} {m:Mp} {Z:Nat→Prop} {w:World} {nt:Nat} {s:St} {a:Act} {R:Type} {fr:Nat} {K:AV→St→Option R} {r:R}
theorem aaq {k:IntKind} {x y:Int} (hx:JW k x):JW k (x.tmod y):=by
 have h1:(x.tmod y).natAbs≤x.natAbs:=by
  rw [Int.natAbs_tmod]; exact Nat.mod_le _ _
 have h2:0≤x→0≤x.tmod y:=fun h=>Int.tmod_nonneg _ h
 have h3:x≤0→x.tmod y≤0:=fun h=>by
  have:=Int.tmod_nonneg (a:= -x) y (by omega);rw [Int.neg_tmod] at this;omega
 generalize x.tmod y=z at*;unfold JW IntKind.wrap at*;cases k<;>simp only [IntKind.bits,IntKind.signed] at* <;>simp at* <;>(try split at hx)<;>(try split)<;>omega
theorem aar {k:IntKind} {x:Int} (n:Nat) (hx:JW k x):JW k (x.fdiv (2 ^ n)):=by
 have hp:(0:Int)<2 ^ n:=Int.pow_pos (by decide);have h0:x.fdiv (2 ^ n)=x/(2 ^ n):=Int.fdiv_eq_ediv_of_nonneg _ (Int.le_of_lt hp);rw [h0];have h1:0≤x→0≤x/2 ^ n∧x/2 ^ n≤x:=fun h=>⟨Int.ediv_nonneg h (Int.le_of_lt hp),Int.ediv_le_self _ h⟩
 have h2:x<0→x/2 ^ n<0∧x≤x/2 ^ n:=fun h=>by
  refine ⟨Int.ediv_neg_of_neg_of_pos h hp, ?_⟩;have hq:(1:Int)≤2 ^ n:=by omega
  exact (Int.le_ediv_iff_mul_le hp).2 (by
   have:=Int.mul_le_mul_of_nonpos_left (Int.le_of_lt h) hq;simpa using this)
 generalize x/2 ^ n=z at*;unfold JW IntKind.wrap at*;cases k<;>simp only [IntKind.bits,IntKind.signed] at* <;>simp at* <;>(try split at hx)<;>(try split)<;>omega
theorem aas {k:IntKind} {n n':Int} {t:TypeId}:(binOp .and t (.int k n) (.int k n')).run P w= .ok (.int k (k.wrap (BitVec.ofInt k.bits n &&& BitVec.ofInt k.bits n').toNat)) w:=by
 show (if k≠k then _ else _:Sem Value).run P w=_
 rw [if_neg (by simp)]; rfl
theorem acD {k:IntKind} {n n':Int} {t:TypeId}:(binOp .or t (.int k n) (.int k n')).run P w= .ok (.int k (k.wrap (BitVec.ofInt k.bits n ||| BitVec.ofInt k.bits n').toNat)) w:=by
 show (if k≠k then _ else _:Sem Value).run P w=_
 rw [if_neg (by simp)]; rfl
theorem aat {k:IntKind} {n n':Int} {t:TypeId}:(binOp .xor t (.int k n) (.int k n')).run P w= .ok (.int k (k.wrap (BitVec.ofInt k.bits n ^^^ BitVec.ofInt k.bits n').toNat)) w:=by
 show (if k≠k then _ else _:Sem Value).run P w=_
 rw [if_neg (by simp)]; rfl
theorem X8 {op:BinOp} {t:TypeId} {x y:Operand} {k k':IntKind} {n n':Int} {u v:Value} (rl:Rel P m Z s.ob w) (hu:bD P m w Z (.int k n) u) (hv:bD P m w Z (.int k' n') v) (e:DF s K op k k' n n'=some r):
  ∃ q s',K q s'=some r∧dh P m Z w s fr ((do pure (.value (← (do eqGuard op t x y u v; binOp op t u v))):Sem Next).run P w) q s':=by
 obtain ⟨rfl,hn⟩:=hu;obtain ⟨rfl,hn'⟩:=hv;have fin: ∀ (q:AV) (z:Value),(binOp op t (.int k n) (.int k' n')).run P w= .ok z w→bD P m w Z q z→K q s=some r→ ∃ q s',K q s'=some r∧dh P m Z w s fr ((do pure (.value (← (do eqGuard op t x y (.int k n) (.int k' n'); binOp op t (.int k n) (.int k' n')))):Sem Next).run P w) q s':=by
  intro q z h1 h2 h3;exact ⟨q,s,h3, .value rl (by simp [eqGuard_at_int,h1]) h2⟩
 have PU: ∀ (n0:Int),(binOp op t (.int k n) (.int k' n')).run P w= .ok (.int k n0) w→JW k n0→K (.int k n0) s=some r→_:=fun n0 h1 h2 h3=>fin (.int k n0) (.int k n0) h1 ⟨rfl,h2⟩ h3
 have agR: ∀ (b:Bool),(binOp op t (.int k n) (.int k' n')).run P w= .ok (.bool b) w→K (.bool b) s=some r→_:=fun b h1 h3=>fin (.bool b) (.bool b) h1 rfl h3
 clear fin;have hsh: ∀ op2,op2=op→xd s K op2 k n n'=some r→ ∃ q s',K q s'=some r∧dh P m Z w s fr ((do pure (.value (← (do eqGuard op t x y (.int k n) (.int k' n'); binOp op t (.int k n) (.int k' n')))):Sem Next).run P w) q s':=by
  intro op2 ho h;unfold xd at h;split at h
  ·subst ho
   obtain ⟨h1,h2⟩:=cC h;have h0: ¬ n'<0:=by simpa using h1
   exact PU _ (by simp [binOp,Op.shift,h0]) (wrap_wrap ..) h2
  ·subst ho
   obtain ⟨h1,h2⟩:=cC h;have h0: ¬ n'<0:=by simpa using h1
   exact PU _ (by simp [binOp,Op.shift,h0]) (aar _ hn) h2
  ·cases h
 unfold DF at e;split at e
 ·rename_i hk
  obtain rfl:=of_decide_eq_true hk;cases op
  case quo=>
   obtain ⟨h1,h2⟩:=cC e;have h0: ¬ n'=0:=by simpa using h1
   exact PU _ (by simp [binOp,Op.intDiv,h0]) (wrap_wrap ..) h2
  case rem=>
   obtain ⟨h1,h2⟩:=cC e;have h0: ¬ n'=0:=by simpa using h1
   exact PU _ (by simp [binOp,Op.intDiv,h0]) (aaq hn) h2
  case shl=>exact hsh _ rfl e
  case shr=>exact hsh _ rfl e
  all_goals
   obtain ⟨q,g1,g2⟩:=aG e;simp only [aei,XT,Option.some.injEq] at g1
  case and=>subst g1; exact PU _ aas (wrap_wrap ..) g2
  case or=>subst g1; exact PU _ acD (wrap_wrap ..) g2
  case xor=>subst g1; exact PU _ aat (wrap_wrap ..) g2
  all_goals first
    |(cases g1; done)
    |(subst g1; exact PU _ (by simp [binOp,Op.intArith]) (wrap_wrap ..) g2)
    |(subst g1; exact agR _ (by simp [binOp,Op.intCmp]) g2)
 ·exact hsh _ rfl e
theorem Mj {op:BinOp} {t:TypeId} {x y:Operand} {b c q:AV} {u v:Value} (rl:Rel P m Z s.ob w) (hu:bD P m w Z b u) (hv:bD P m w Z c v) (e:aaj P op t b c=some q):
  dh P m Z w s fr ((do pure (.value (← (do eqGuard op t x y u v; binOp op t u v))):Sem Next).run P w) q s:=by
 unfold aaj at e;split at e
 ·rename_i p q2
  obtain rfl:=hu;obtain rfl:=hv;have heq:=fun (ht:P.underlying t=some .bool)=>Sim.mF (P:=P) (T:=t) (x:=x) (y:=y) (u:= .bool p) (v:= .bool q2) (q:=p==q2) (w:=w) rfl rfl rfl rfl (by rw [Op.equalIn]; simp [aD ht])
  split at e
  ·rename_i ht; cases e
   exact .value rl (v':= .bool (p==q2)) (by simp [(heq ht).1]) rfl
  ·rename_i ht; cases e
   exact .value rl (v':= .bool (p != q2)) (by simp [(heq ht).2]; cases p<;>cases q2<;>rfl) rfl
  ·cases e
 ·rename_i b1 b2
  obtain ⟨rfl,_⟩:=hu;obtain ⟨rfl,_⟩:=hv;split at e
  ·rename_i q1 hq
   cases e;refine .value rl (v':= .bool q1) ?_ rfl;have hb:binOp op t (.string b1) (.string b2)=Op.stringOp op b1 b2:=by
    cases op<;>first|rfl|(simp [R9] at hq; done)
   have h1:aM b1 b2=(b1.data.toList==b2.data.toList):=by
    unfold aM;rw [Bool.beq_eq_decide_eq]
   have hl:=Sim.gD b1.data.toList b2.data.toList;have C5:=Sim.gD b2.data.toList b1.data.toList;have hrun:(Op.stringOp op b1 b2).run P w= .ok (.bool q1) w:=by
    unfold R9 strLt at hq;rw [h1,Sim.uB,Sim.uB] at hq;cases op<;>simp only [Option.some.injEq] at hq<;>(try cases hq)<;>simp only [Op.stringOp,Sem.run_pure,ByteArray.toList_eq,hl,Bool.not_not]
   simp [eqGuard_at_string,hb,hrun]
  ·cases e
 ·rename_i la w1 lb w2
  obtain ⟨xs,rfl,hx,_⟩:=hu;obtain ⟨ys,rfl,hy,_⟩:=hv;split at e
  ·rename_i fs ht hgd
   split at e
   ·rename_i q1 hq
    have hrun:=Ld (w:=w) (m:=m) (Z:=Z) dep 10000 (by decide) t la lb q1 hq (.agg ⟨xs⟩) (.agg ⟨ys⟩) (by unfold fI; rw [ht]; exact ⟨xs,rfl,hx⟩) (by unfold fI; rw [ht]; exact ⟨ys,rfl,hy⟩);have hgu: ∀ op,(eqGuard op t x y (.agg ⟨xs⟩) (.agg ⟨ys⟩)).run P w= .ok () w:=fun op=>run_eqGuard_agg w op t x y ⟨xs⟩ ⟨ys⟩ hgd
    split at e
    ·cases e
     refine .value rl (v':= .bool q1) ?_ rfl;simp only [Sem.run_bind,hgu,Result.andThen_ok,run_eql_struct,hrun]
    ·cases e
     refine .value rl (v':= .bool (!q1)) ?_ rfl;simp only [Sem.run_bind,hgu,Result.andThen_ok,run_neq_struct,hrun]
    ·cases e
   ·cases e
  ·cases e
 ·cases e
theorem Vk {t:TypeId} {x y:Operand} {b c:ByteArray} {u v:Value} (rl:Rel P m Z s.ob w) (hu:bD P m w Z (.str b) u) (hv:bD P m w Z (.str c) v) (e:aC (Nat.ble (b.size+c.size) aN) (K (.str (b++c)) s)=some r):
  ∃ q s',K q s'=some r∧dh P m Z w s fr ((do pure (.value (← (do eqGuard .add t x y u v; binOp .add t u v))):Sem Next).run P w) q s':=by
 obtain ⟨h1,h2⟩:=cC e;have h1:=cx h1;obtain ⟨rfl,_⟩:=hu;obtain ⟨rfl,_⟩:=hv;refine ⟨_,_,h2, .value rl (v':= .string (b++c)) ?_ ⟨rfl,by simpa using h1⟩⟩;have hb:binOp .add t (.string b) (.string c)=Op.stringOp .add b c:=rfl;simp only [Sem.run_bind,eqGuard_at_string,Sem.run_pure,Result.andThen_ok,hb,run_string_add_sum w b c h1]
theorem abe {op:UnOp} {x:AV} {u:Value} (rl:Rel P m Z s.ob w) (hu:bD P m w Z x u) (e:(match x with
  | .bool b=>match op with
   | .not=>K (.bool (!b)) s
   |_=>none
  | .int k n=>match op with
   | .neg=>K (.int k (k.wrap (0 - n))) s
   |_=>none
  |_=>none)=some r):
  ∃ q s',K q s'=some r∧dh P m Z w s fr ((do pure (.value (← Op.unary op u)):Sem Next).run P w) q s':=by
 cases x with
 |bool b=>
  obtain rfl:=hu;cases op with
  |not=>exact ⟨_,_,e, .value rl (v':= .bool (!b)) (by simp [Op.unary]) rfl⟩
  |_=>cases e
 |int k n=>
  obtain ⟨rfl,_⟩:=hu;cases op with
  |neg=>exact ⟨_,_,e, .value rl (v':= .int k (k.wrap (0 - n))) (by simp [Op.unary,Op.intArith]) ⟨rfl,wrap_wrap ..⟩⟩
  |_=>cases e
 |_=>cases e
theorem Le {ty:TypeId} {ts:Array TypeId} {l:List AV} {vs:List Value} {q:AV} (mx:Bool) (rl:Rel P m Z s.ob w) (hl:bu P m w Z l vs) (e:M4 mx l=some q):
  dh P m Z w s fr ((do pure (.value (← (match mx with
   |true=>Builtin.max_ ts ty ⟨vs⟩
   |false=>Builtin.min_ ts ty ⟨vs⟩))):Sem Next).run P w) q s:=by
 unfold M4 at e;split at e
 ·rename_i k x k' y
  split at e
  ·rename_i hk
   obtain rfl:=of_decide_eq_true hk;cases e
   match vs,hl with
   |[u,v],hl=>
    obtain ⟨⟨rfl,h1⟩,⟨rfl,h2⟩,_⟩:=hl;cases mx
    ·exact .value rl (v':= .int k (mR x y)) (by simp [Builtin.min_,Builtin.min2,mR]) ⟨rfl,show JW k (mR x y) by unfold mR; by_cases h:y<x<;>simp only [h,if_true,if_false]<;>assumption⟩
    ·exact .value rl (v':= .int k (jL x y)) (by simp [Builtin.max_,Builtin.max2,jL]) ⟨rfl,show JW k (jL x y) by unfold jL; by_cases h:y>x<;>simp only [h,if_true,if_false]<;>assumption⟩
  ·cases e
 ·cases e
end Go.Sy
namespace Go.Sy
open Go.Sim (Tr aV bM bA bL br ef cx cY aW aD cJ bW aU cM fP)
variable {P:Program} {m:Mp} {Z:Nat→Prop} {w:World} {nt:Nat} {s:St} {a:Act} {R:Type} {fr:Nat} {K:AV→St→Option R} {r:R}
theorem PW {p cs:List Value} {k:Nat} (h:k+p.length≤cs.length):Sim.putAt p k cs=cs.take k++p++cs.drop (k+p.length):=by
 apply List.ext_getElem?;intro j;rw [Sim.mO];by_cases h1:j<k
 ·rw [if_neg (by omega),List.append_assoc,List.getElem?_append_left (by simp; omega),List.getElem?_take,if_pos h1]
 ·by_cases h2:j<k+p.length
  ·rw [if_pos ⟨by omega,h2,by omega⟩,List.append_assoc,List.getElem?_append_right (by simp; omega),List.getElem?_append_left (by simp; omega)]
   simp [Nat.min_eq_left (show k≤cs.length by omega)]
  ·rw [if_neg (by omega),List.getElem?_append_right (by simp; omega),List.getElem?_drop]
   congr 1
   simp [Nat.min_eq_left (show k≤cs.length by omega)];omega
def T9 (P:Program) (m:Mp) (w:World) (Z:Nat→Prop) (place:Nat→Option (Nat×Nat)):List (Nat×List AV)→List (Nat×Value)→Prop
 |[],[]=>True
 |p::ps,q::qs=>(bu P m w Z p.2 q.2.cells.toList∧place q.1=some (p.1,p.2.length))∧T9 P m w Z place ps qs
 |_,_=>False
theorem PX (x:Value) (off:Nat) (cc:Array Value):x.cells.zipIdx.foldl (fun cs (c,j)=>cs.setIfInBounds (off+j) c) cc=⟨Sim.putAt x.cells.toList off cc.toList⟩:=by
 apply Array.ext';rw [← Array.foldl_toList,Array.toList_zipIdx];have:=Sim.Dk off x.cells.toList 0 cc;simpa using this
theorem xl {place:Nat→Option (Nat×Nat)}: ∀ (ps:List (Nat×List AV)) (parts:List (Nat×Value)) (cs:List AV) (cc:Array Value) (l:List AV),
  EG ps cs=some l→bu P m w Z cs cc.toList→T9 P m w Z place ps parts→
  ∃ OE,Instr.fill place cc parts=some OE∧bu P m w Z l OE.toList
 |[],_::_,cs,cc,l,hf,hc,h2=>h2.elim
 |_::_,[],cs,cc,l,hf,hc,h2=>h2.elim
 |[],[],cs,cc,l,hf,hc,h2=>by
  simp only [EG,Option.some.injEq] at hf;subst hf;exact ⟨cc,rfl,hc⟩
 |(off,p)::ps,(i,x)::qs,cs,cc,l,hf,hc,h2=>by
  obtain ⟨⟨h5,h6⟩,h4⟩:=h2;simp only [EG] at hf;split at hf
  ·rename_i hb
   have hle:=cx hb;dsimp only at h5 h6;have hl1:=ct h5;have C5:=ct hc;simp only [Array.length_toList] at hl1 C5;have hov:=Lb (off:=off) hc h5;rw [← PW (by simp only [Array.length_toList]; omega)] at hov;obtain ⟨OE,h7,h8⟩:=xl (place:=place) ps qs _ ⟨Sim.putAt x.cells.toList off cc.toList⟩ l hf hov h4;refine ⟨OE, ?_,h8⟩;simp only [Instr.fill,h6];rw [if_neg (by simp; omega),PX];exact h7
  ·cases hf
theorem BR (rt:bU P m w Z nt s.tm a.tmps) {fs:Array Field}: ∀ {parts:List (Nat×Operand)} {ps:List (Nat×List AV)},Dz P s fs.toList parts=some ps→
  T9 P m w Z ((fs.map fun f=>(f.offset,(aV P f.type).getD 0))[·]?) ps (parts.map fun (i,x)=>(i,a.eval x))
 |[],ps,h=>by simp only [Dz,Option.some.injEq] at h; subst h; trivial
 |(i,x)::l,ps,h=>by
  simp only [Dz] at h;split at h
  ·rename_i f v r hf hv hr
   split at h
   ·rename_i n hn
    split at h
    ·rename_i hq
     cases h;refine ⟨⟨(mS (az rt hv)).1, ?_⟩,BR rt hr⟩;have hf':fs[i]? =some f:=by simpa using hf
     simp [hf',hn,br hq]
    ·cases h
   ·cases h
  ·cases h
theorem BS (rt:bU P m w Z nt s.tm a.tmps) {size:Nat}: ∀ {parts:List (Nat×Operand)} {ps:List (Nat×List AV)},DA s size parts=some ps→
  T9 P m w Z (fun i=>some (i*size,size)) ps (parts.map fun (i,x)=>(i,a.eval x))
 |[],ps,h=>by simp only [DA,Option.some.injEq] at h; subst h; trivial
 |(i,x)::l,ps,h=>by
  simp only [DA] at h;split at h
  ·rename_i v r hv hr
   split at h
   ·rename_i hq
    cases h;exact ⟨⟨(mS (az rt hv)).1,by simp [br hq]⟩,BS rt hr⟩
   ·cases h
  ·cases h
theorem Vl (rl:Rel P m Z s.ob w) (rt:bU P m w Z nt s.tm a.tmps) {t:TypeId} {fs:Array Field} {parts:Array (Nat×Operand)} {z l:List AV} {ps:List (Nat×List AV)}
  (hz:HD P t=some z) (ht:P.underlying t=some (.struct fs)) (hs:Sim.fO P fs.toList=true) (hp:Dz P s fs.toList parts.toList=some ps) (hf:EG ps z=some l):
  dh P m Z w s fr ((do pure (.value (← Instr.build t (parts.map fun (i,x)=>(i,a.eval x)))):Sem Next).run P w) (.agg l none) s:=by
 obtain ⟨u,h1,h2⟩:=xj (m:=m) (w:=w) (Z:=Z) hz;obtain ⟨cc,h3,h4⟩:=xl _ _ _ u.cells _ hf h2 (BR rt hp);refine .value rl (v':= .agg cc) ?_ ⟨cc.toList,rfl,h4,fun t p e=>by cases e⟩;have hm:=Sim.KH (P:=P) (fun f:Field=>(do pure (f.offset, ←sizeOf f.type):Sem (Nat×Nat))) (fun f=>(f.offset,(aV P f.type).getD 0)) w fs (fun f hf=>by
  obtain ⟨n,hn⟩:=Sim.uz hs f hf;simp [aW hn,hn])
 simp only [Instr.build,Sem.run_bind,bW h1,Result.andThen_ok,aD ht,hm,Array.toList_map];rw [h3];rfl
theorem Vm (rl:Rel P m Z s.ob w) (rt:bU P m w Z nt s.tm a.tmps) {t e:TypeId} {n size:Nat} {parts:Array (Nat×Operand)} {z l:List AV} {ps:List (Nat×List AV)}
  (hz:HD P t=some z) (ht:P.underlying t=some (.array n e)) (hn:aV P e=some size) (hp:DA s size parts.toList=some ps) (hf:EG ps z=some l):
  dh P m Z w s fr ((do pure (.value (← Instr.build t (parts.map fun (i,x)=>(i,a.eval x)))):Sem Next).run P w) (.agg l none) s:=by
 obtain ⟨u,h1,h2⟩:=xj (m:=m) (w:=w) (Z:=Z) hz;obtain ⟨cc,h3,h4⟩:=xl _ _ _ u.cells _ hf h2 (BS rt hp);refine .value rl (v':= .agg cc) ?_ ⟨cc.toList,rfl,h4,fun t p e=>by cases e⟩;simp only [Instr.build,Sem.run_bind,bW h1,Result.andThen_ok,aD ht,aW hn,Array.toList_map];rw [h3];rfl
theorem PY {e:TypeId} {v:Value} {p:PV} (h:cu P w Z e v p):fu P w Z e v.cells.toList [p]:=by
 unfold cu at h;cases hq:isAgg P e with
 |true=>
  rw [hq] at h;obtain ⟨vs,ps,rfl,rfl,h1,h2,h3⟩:=h;refine ⟨by simpa [Value.cells] using h1,fun q ZA=> ?_,fun i j q t' hi hj=> ?_⟩
  ·obtain rfl:=List.mem_singleton.1 ZA
   exact fun _=>⟨ps,rfl,h2⟩
  ·cases i with
   |succ i=>simp at hi
   |zero=>
    simp at hi;subst hi;have hjl:j<(aI P e).length:=(List.getElem?_eq_some_iff.1 hj).1;refine ⟨vs[j]'(by omega),by simp [Value.cells], ?_⟩;unfold cellAt;rw [hq];have hp:ps[j]? =some (ps[j]'(by omega)):=by simp
    show jM P w Z t' _ (aj (.agg ps) j)
    rw [BG hp];exact h3 j t' _ _ hj (by simp) hp
 |false=>
  rw [hq] at h;have h:jM P w Z e v p:=h;have h1:=eT hq;have hc:v.cells= #[v]:=by cases h<;>rfl
  rw [hc];refine ⟨by rw [h1]; rfl,fun q _ (ha:isAgg P e=true)=>absurd (hq.symm.trans ha) (by decide),fun i j q t' hi hj=> ?_⟩;cases i with
  |succ i=>simp at hi
  |zero=>
   simp at hi;subst hi;rw [h1] at hj ⊢;cases j with
   |succ j=>simp at hj
   |zero=>
    simp at hj;subst hj;refine ⟨v,by simp, ?_⟩;unfold cellAt;rw [hq];exact h
theorem uX (rl:Rel P m Z s.ob w) (rt:bU P m w Z nt s.tm a.tmps) {e:TypeId}: ∀ {parts:List (Nat×Operand)} {k:Nat} {l:List PV} {o:List Nat} {cc:Array Value},DB P s e k parts=some (l,o)→cc.size=(k+parts.length)*(aI P e).length→
  l.length=parts.length∧(∀ i∈o, ∃ q,look s.ob i=some q)∧ ∃ ds OE,Instr.fill (fun i=>some (i*(aI P e).length,(aI P e).length)) cc (parts.map fun (i,x)=>(i,a.eval x))=some OE∧OE.toList=cc.toList.take (k*(aI P e).length)++ds∧fu P w (Zo m o Z) e ds l
 |[],k,l,o,cc,h,hs=>by
  simp only [DB,Option.some.injEq,Prod.mk.injEq] at h;obtain ⟨rfl,rfl⟩:=h;refine ⟨rfl,fun i hi=>(by cases hi),[],cc,rfl, ?_,⟨by simp,fun p hp=>(by cases hp),fun i j p t' hi=>by simp at hi⟩⟩;rw [List.append_nil,List.take_of_length_le];simp [hs]
 |(i,x)::parts,k,l,o,cc,h,hs=>by
  simp only [DB] at h;split at h
  ·rename_i v hb hv
   obtain rfl:=br hb;split at h
   ·rename_i p r o' hp hr
    cases h;have hu:=az rt hv;obtain ⟨g1,g2⟩:=jO rl hu hp;have g3:=PY g1;have hsz:=g3.1;simp only [List.length_singleton,Nat.one_mul,Array.length_toList] at hsz;simp only [List.length_cons] at hs;have hmul:(i+(parts.length+1))*(aI P e).length=i*(aI P e).length+(parts.length*(aI P e).length+(aI P e).length):=by rw [Nat.add_mul,Nat.add_mul,Nat.one_mul]
    have hle:i*(aI P e).length+(a.eval x).cells.toList.length≤cc.toList.length:=by simp only [Array.length_toList,hsz,hs,hmul]; omega
    obtain ⟨k1,k2,ds,OE,k3,k4,k5⟩:=uX rl rt (cc:=⟨Sim.putAt (a.eval x).cells.toList (i*(aI P e).length) cc.toList⟩) hr (by
     show (Sim.putAt _ _ _).length=_
     rw [Sim.Ba,Array.length_toList,hs]; congr 1; omega)
    refine ⟨by simp [k1],fun j hj=>(List.mem_append.1 hj).elim (g2 j) (k2 j),(a.eval x).cells.toList++ds,OE, ?_, ?_, ?_⟩
    ·simp only [List.map_cons,Instr.fill]
     rw [if_neg (by simp only [Array.length_toList] at hle; simp [hsz]; omega),PX];exact k3
    ·rw [k4]
     show (Sim.putAt _ _ _).take _++ds=_
     rw [PW hle, ←List.append_assoc]
     congr 1
     rw [List.take_append_of_le_length (by simp only [List.length_append,List.length_take,Array.length_toList,hsz] at hle ⊢; rw [Nat.add_mul]; omega),List.take_of_length_le (by simp only [List.length_append,List.length_take,Array.length_toList,hsz] at hle ⊢; rw [Nat.add_mul]; omega)]
    ·exact fu.append (l:=[p]) (g3.mono (fun _ _=>rfl) fun b hb=>hb.more (fun j hj=>List.mem_append_left _ hj)) (k5.mono (fun _ _=>rfl) fun b hb=>hb.more (fun j hj=>List.mem_append_right _ hj))
   ·cases h
  ·cases h
theorem Rel.newRow {ob La:Lay AO} (rl:Rel P m Z ob w) {fr:Nat} (hm:m fr=none) {e ty:TypeId} {l:List PV} {cs:List Value} (hcs:fu P w Z e cs l) (hsz:aV P e=some (aI P e).length) (hl:l.length≤aN)
  (qY: ∀ j,look La j=if fr=j then some (.row e l) else look ob j):Rel P (m.up fr (.row (some (w.heap.size,0)) l.length l.length)) Z La (w.alloc (.cells ⟨cs⟩ ty)):=by
 refine rl.alloc hm qY rfl ⟨_,_,Mp.bg .., .inr ⟨w.heap.size,0,rfl,fun hz=>absurd (rl.zb _ hz) (Nat.lt_irrefl _),⟨cs⟩,ty,(0,0),yG ..,DK _,hsz, ?_,Nat.le_refl _,hl,hcs.2.1,fun i j p t' hi hj=> ?_⟩⟩
 ·simp [hcs.1]
 ·obtain ⟨u,hu,hr⟩:=hcs.2.2 i j p t' hi hj
  exact ⟨u,by simpa using hu,hr.mono (fun b hb=>RowKit.Below.heap_alloc _ _ _ (rl.zb b hb)) fun _ h=>h⟩
theorem sy (rl:Rel P m Z s.ob w) (rt:bU P m w Z nt s.tm a.tmps) (hm:m fr=none) {t e:TypeId} {len:Nat} {parts:Array (Nat×Operand)} {l:List PV} {o:List Nat} {z:Value} (ht:P.underlying t=some (.slice e)) (hsz:aV P e=some (aI P e).length) (hz:bA P e=some z)
  (he:DB P s e 0 parts.toList=some (l,o)) (hlen:parts.toList.length=len) (akT:len*(aI P e).length≤16777216) (hlm:len≤16777216) (h:(andThen (drop o s) fun s=>newRow fr K e l s)=some r):
  ∃ q s',K q s'=some r∧dh P m Z w s fr ((do pure (.value (← Instr.buildSlice t len (parts.map fun (i,x)=>(i,a.eval x)))):Sem Next).run P w) q s':=by
 obtain ⟨s1,h1,h2⟩:=aG h;unfold newRow at h2;split at h2
 ·rename_i ob qY
  obtain ⟨q1,q2⟩:=bX qY;have main: ∀ zz:Array Value, ∃ ds,(Instr.fill (fun i=>some (i*(aI P e).length,(aI P e).length)) ((Array.range (len*(aI P e).length)).map (zz[· %zz.size]!)) (parts.toList.map fun (i,x)=>(i,a.eval x)))=some ⟨ds⟩∧fu P w (Zo m o Z) e ds l:=by
   intro zz;obtain ⟨_,_,ds,OE,k3,k4,k5⟩:=uX rl rt (cc:=(Array.range (len*(aI P e).length)).map (zz[· %zz.size]!)) he (by simp [← hlen]);refine ⟨ds, ?_,k5⟩;rw [k3]
   congr 1
   apply Array.ext';rw [k4]; simp
  obtain ⟨k1,k2,_⟩:=uX rl rt (cc:=Array.replicate ((0+parts.toList.length)*(aI P e).length) default) he (by simp);have rl1:=rl.drop k2 h1;obtain ⟨d1,d2,d3,d4⟩:=iI h1;have Oc:l.length=len:=by rw [k1,hlen]
  have hx: ∃ ds,fu P w (Zo m o Z) e ds l∧(Instr.buildSlice t len (parts.map fun (i,x)=>(i,a.eval x))).run P w= .ok (.slice (some ⟨w.heap.size,0,none⟩) len len) (w.alloc (.cells ⟨ds⟩ e)):=by
   have hlt: ¬ len*(aI P e).length>2 ^ 24:=by omega
   by_cases h0:len*(aI P e).length=0
   ·obtain ⟨ds,g1,g2⟩:=main #[]
    refine ⟨ds,g2, ?_⟩;simp only [Instr.buildSlice,Sem.run_bind,aD ht,Result.andThen_ok,aW hsz,if_neg hlt,if_pos h0,Sem.run_pure,Array.toList_map,g1];simp [Go.newRow]
   ·obtain ⟨ds,g1,g2⟩:=main z.cells
    refine ⟨ds,g2, ?_⟩;simp only [Instr.buildSlice,Sem.run_bind,aD ht,Result.andThen_ok,aW hsz,if_neg hlt,if_neg h0,Sem.run_pure,Array.toList_map,bW hz,g1];simp [Go.newRow]
  obtain ⟨ds,g1,g2⟩:=hx;refine ⟨_,_,h2,m.up fr (.row (some (w.heap.size,0)) l.length l.length),Zo m o Z,_,_, .inl (aU g2),⟨.up hm _,fun i hi=>Mp.fR m _ hi,fun _ h=> .sub h,fH.alloc rl _,fun b hb _=>RowKit.Below.heap_alloc _ _ _ hb,fun q hq=>Zo.old k2 hq,fun p b hp hb=>by rw [Mp.bg] at hp; cases hp; cases hb; exact .inr (.inl (Nat.le_refl _))⟩,rl1.newRow hm g1 hsz (by rw [Oc]; unfold aN; omega) q2,⟨_,Mp.bg ..,by rw [Oc]; rfl⟩,d1,d2,d3.trans q1⟩
 ·cases h2
theorem PZ {e:TypeId} {p:PV} (h:TY P e=some p): ∃ v,bA P e=some v∧v.cells= #[v]∧isAgg P e=false∧ ∀ (w:World) (Z:Nat→Prop),jM P w Z e v p:=by
 unfold TY at h;split at h
 ·rename_i k n k' hz hu
  split at h
  ·rename_i h1 h2
   cases h;have h1:=of_decide_eq_true h1;have h2:=of_decide_eq_true h2;subst h1 h2;exact ⟨_,hz,rfl,by simp [isAgg,bM,hu],fun w Z=> .int hu (by cases k<;>rfl)⟩
  ·cases h
 ·rename_i q hz hu
  split at h
  ·cases h
   exact ⟨_,hz,rfl,by simp [isAgg,bM,hu],fun w Z=> .bool hu⟩
  ·cases h
 ·cases h
theorem uA (rl:Rel P m Z s.ob w) (hm:m fr=none) {t e:TypeId} {lv cv:Value} {k k':IntKind} {n c:Int} {p:PV} {b:Nat} (hl:lv= .int k n) (hc:cv= .int k' c) (ht:P.underlying t=some (.slice e)) (hw:wide P e=true) (hz:TY P e=some p) (hby:fP P e=some b)
  (hh:aC (mkB b n c) (newRow fr K e (List.replicate n.toNat p) s)=some r):
  ∃ q s',K q s'=some r∧dh P m Z w s fr ((do pure (.value (← Instr.makeSlice t lv cv)):Sem Next).run P w) q s':=by
 subst hl hc;obtain ⟨h0,h⟩:=cC hh;clear hh;unfold mkB at h0;simp only [Bool.and_eq_true,decide_eq_true_eq] at h0;obtain ⟨⟨h1,rfl⟩,h2⟩:=h0;have h2:=cx h2;obtain ⟨l,rfl⟩:=Int.eq_ofNat_of_zero_le h1;simp only [Int.toNat_natCast] at h2 h;obtain ⟨v,z1,z2,z3,z4⟩:=PZ hz;have hsz:=pV hw;have h1t:=eT z3;obtain ⟨i,hi,rfl⟩:=Sim.wP hby w;unfold newRow at h;split at h
 ·rename_i ob qY
  obtain ⟨q1,q2⟩:=bX qY;have wl:IntKind.i64.wrap (l:Int)=l:=IntWalk.i64_in _ (by omega);have t1:((l:Int)<0||(i.bytes:Int)*l>2 ^ 48)=false:=by
   have:(i.bytes:Int)*l=((i.bytes*l:Nat):Int):=by push_cast; rfl
   rw [this];simp; omega
  have t2: ¬ (((l:Int)<0||(i.bytes:Int)*l>2 ^ 48)||(l:Int)<0||(l:Int)>l)=true:=by
   rw [t1]; simp
  have hsz':aV P e=some 1:=by rw [hsz,h1t]; rfl
  have h2i:=Sim.Di hsz' hi;have hrow: ∀ zz:Array Value,(l=0∨zz= #[v])→((Array.range (l*1)).map (zz[· %zz.size]!))=⟨List.replicate l v⟩:=by
   intro zz hzz;apply Array.ext';rcases hzz with rfl|rfl
   ·simp
   ·apply List.ext_getElem?
    intro j;simp only [Nat.mul_one,Array.toList_map,Array.toList_range,List.getElem?_map,List.getElem?_replicate];by_cases hj:j<l
    ·simp [hj,Nat.mod_one]
    ·simp [hj]
  have hcs:fu P w Z e (List.replicate l v) (List.replicate l p):=by
   refine ⟨by simp [h1t],fun q hq (ha:isAgg P e=true)=>absurd (z3.symm.trans ha) (by decide),fun i j q t' hi hj=> ?_⟩;rw [h1t] at hj ⊢;cases j with
   |succ j=>simp at hj
   |zero=>
    simp at hj;subst hj;simp only [List.getElem?_replicate] at hi;split at hi
    ·rename_i hil
     cases hi;refine ⟨v,by simp [List.getElem?_replicate,hil], ?_⟩;unfold cellAt;rw [z3];exact z4 w Z
    ·cases hi
  have hx:(Instr.makeSlice t (.int k (l:Int)) (.int k' (l:Int))).run P w= .ok (.slice (some ⟨w.heap.size,0,none⟩) l l) (w.alloc (.cells ⟨List.replicate l v⟩ e)):=by
   simp only [Instr.makeSlice,Sem.run_bind,aD ht,Result.andThen_ok,asInt,asIntOf,Sem.run_pure,typeInfo,run_program,hi,wl,if_neg t2,run_askRoom,Int.toNat_natCast,sizeOf,h2i];by_cases h0:l*1=0
   ·simp only [if_pos h0,Sem.run_pure,Result.andThen_ok,Go.newRow,Sem.run_bind,run_newObj]
    rw [hrow _ (.inl (by omega))]; rfl
   ·simp only [if_neg h0,Sem.run_bind,bW z1,Sem.run_pure,Result.andThen_ok,Go.newRow,run_newObj]
    rw [hrow _ (.inr z2)]; rfl
  have Oc:(List.replicate l p).length=l:=by simp
  have hnew:=rl.newRow hm (ty:=e) hcs hsz (by rw [Oc]; unfold aN; omega) q2;rw [Oc] at hnew;exact ⟨_,_,h,m.up fr (.row (some (w.heap.size,0)) l l),Z,_,_, .inl (aU hx),⟨.up hm _,fun i hi=>Mp.fR m _ hi,fun _ h=>h,fH.alloc rl _,fun b hb _=>RowKit.Below.heap_alloc _ _ _ hb,fun q hq=> .inl hq,fun p b hp hb=>by rw [Mp.bg] at hp; cases hp; cases hb; exact .inr (.inl (Nat.le_refl _))⟩,hnew,⟨_,Mp.bg ..,rfl⟩,rfl,rfl,q1⟩
 ·cases h
end Go.Sy
namespace Go.Sy
open Go.Sim (Tr aV bM bA bL br ef cx cY aW aD cJ bW aU cM fP)
variable {P:Program} {m:Mp} {Z:Nat→Prop} {w:World} {nt:Nat} {s:St} {a:Act} {R:Type} {fr:Nat} {K:AV→St→Option R} {r:R}
theorem X9 {e:TypeId} {x:AV} {v:Value} {new:List PV} (rl:Rel P m Z s.ob w) (hv:bD P m w Z x v) (e1:Vb P s (some (.slice e)) e x=some new):
  (∃ n c,v= .slice none n c∧new=[])∨ ∃ ad n c,v= .slice (some ad) n c:=by
 unfold Vb at e1;split at e1
 ·split at e1
  ·cases e1
   obtain ⟨t,_,h⟩:=hv;cases h with
   |nil=>exact .inl ⟨_,_,rfl,rfl⟩
   |sl=>exact .inr ⟨_,_,_,rfl⟩
  ·cases e1
 ·split at e1
  ·rename_i hr
   split at e1
   ·cases e1
    obtain ⟨a2,c2,h2,h3⟩:=rl.obj _ _ (dD hr);obtain rfl:=qW hv h2;rcases h3 with ⟨rfl,rfl,rfl⟩|⟨b,o,rfl,_⟩
    ·exact .inl ⟨_,_,rfl,rfl⟩
    ·exact .inr ⟨_,_,_,rfl⟩
   ·cases e1
  ·cases e1
 ·cases e1
  obtain ⟨rfl,_⟩:=hv;exact .inl ⟨_,_,rfl,rfl⟩
 ·cases ‹some (TypeDesc.slice e)=some TypeDesc.string›
 ·cases e1
theorem P0 {e:TypeId} {cs:List Value} {l:List PV} (he:P.underlying e=some (.int .u8)) (h:fu P w Z e cs l) (hq:isAgg P e=false): ∃ ns:List Int,cs=ns.map (Value.int .u8)∧strOf l=ns.foldl (fun r n=>r.push (UInt8.ofNat n.toNat)) ByteArray.empty:=by
 have h1:=eT hq;obtain ⟨g1,_,g3⟩:=h;rw [h1] at g1 g3;simp only [List.length_singleton,Nat.mul_one] at g1 g3;refine ⟨l.map PV.toInt, ?_, ?_⟩
 ·apply List.ext_getElem?
  intro i;rw [List.getElem?_map,List.getElem?_map];cases hi:l[i]? with
  |none=>
   rw [List.getElem?_eq_none_iff] at hi;rw [List.getElem?_eq_none (by omega)]; rfl
  |some p=>
   obtain ⟨u,hu,hr⟩:=g3 i 0 p e hi rfl;rw [Nat.add_zero] at hu;rw [hu];have hr:jM P w Z e u (cellAt P e p 0):=hr;unfold cellAt at hr;rw [hq] at hr;have hr:jM P w Z e u p:=hr;cases hr with
   |int ht hn=>rw [he] at ht; cases ht; rfl
   |bool ht=>rw [he] at ht; cases ht
   |str ht=>rw [he] at ht; cases ht
   |nil ht=>rw [he] at ht; cases ht
   |sl ht=>rw [he] at ht; cases ht
 ·unfold strOf
  apply ByteArray.ext; apply Array.toList_inj.1;rw [Sim.foldl_push];simp
theorem Ml {src dst:TypeId} {x:AV} {u:Value} (rl:Rel P m Z s.ob w) (hu:bD P m w Z x u) (e:K6 P s K src dst x=some r):
  ∃ q s',K q s'=some r∧dh P m Z w s fr ((do pure (.value (← convert src dst u)):Sem Next).run P w) q s':=by
 unfold K6 at e;split at e
 ·rename_i k n
  split at e
  ·rename_i d k' hs hd
   obtain ⟨rfl,_⟩:=hu;refine ⟨_,_,e, .value rl (v':= .int k' (k'.wrap n)) ?_ ⟨rfl,wrap_wrap ..⟩⟩;simp [convert,aD hs,aD hd,Conv.intToInt]
  ·cases e
 ·rename_i t
  split at e
  ·rename_i hs hd
   obtain ⟨rfl,hz⟩:=hu;exact ⟨_,_,e, .value rl (v':= .string t) (by simp [convert,aD hs,aD hd]) ⟨rfl,hz⟩⟩
  ·cases e
 ·split at e
  ·rename_i el hs hd
   split at e
   ·rename_i l he hl hwd
    obtain ⟨h1,h2⟩:=cC e;have h1:=cx h1;have hq:isAgg P el=false:=by simp [isAgg,bM,he]
    have h1t:=eT hq;have hsz:aV P el=some (aI P el).length:=pV hwd;obtain ⟨cs,g1,g2,g3,g4,g5⟩:=Al (u:=src) rl hu hsz (by rw [hs]; exact hl);obtain ⟨ns,rfl,agS⟩:=P0 he g1 hq;have hcv: ∀ n c ad,u= .slice ad n c→(convert src dst u).run P w=(Conv.bytesToString u).run P w:=by
     intro n c ad UQ;subst UQ;cases ad<;>simp [convert,aD hs,aD hd,aD he]
    refine ⟨_,_,h2, .value rl (v':= .string (strOf l)) ?_ ⟨rfl, ?_⟩⟩
    ·rcases X9 rl hu hl with ⟨n,c,rfl,rfl⟩|⟨ad,n,c,rfl⟩
     ·rw [hcv _ _ _ rfl]
      simp [Conv.bytesToString,strOf]; rfl
     ·have hn:n=l.length:=by simpa [Builtin.lenOf] using g2
      subst hn;have:=g3 w rfl;rw [hcv _ _ _ rfl,agS];refine run_bytesToString w ad l.length c ns ?_;simpa [Builtin.firstCells,h1t] using this
    ·simp [strOf,ByteArray.size]; exact h1
   ·cases e
  ·cases e
end Go.Sy
namespace Go.Sy
open Go.Sim (Tr aV bM bA bL br ef cx cY aW aD cJ bW aU cM fP p0 TA)
variable {P:Program} {m:Mp} {Z:Nat→Prop} {w:World} {nt:Nat} {s:St} {a:Act} {R:Type} {fr:Nat} {K:AV→St→Option R} {r:R}
theorem ir {t k v:TypeId} (h:HF P t=some (k,v)):P.underlying t=some (.map k v):=by
 unfold HF at h;split at h
 ·rename_i k' v' ht
  split at h
  ·cases h; exact ht
  ·cases h; exact ht
  ·cases h
 ·cases h
def Am (P:Program) (k:TypeId):Prop:=(∃ i,P.underlying k=some (.int i))∨P.underlying k=some .string
theorem P3 {t k v:TypeId} (h:HF P t=some (k,v)):Am P k:=by
 unfold HF at h;split at h
 ·rename_i k' v' ht
  split at h
  ·rename_i i hk; cases h; exact .inl ⟨i,hk⟩
  ·rename_i hk; cases h; exact .inr hk
  ·cases h
 ·cases h
theorem Lf {k:TypeId} (h:Am P k):isAgg P k=false:=by
 unfold isAgg bM;rcases h with ⟨i,h⟩|h<;>simp [h]
theorem DL {w:World} {Z:Nat→Prop} {k:TypeId} (h:Am P k) {v:Value} {p:PV} (hr:cu P w Z k v p):(∃ i n,P.underlying k=some (.int i)∧v= .int i n∧p= .int n)∨(∃ b,P.underlying k=some .string∧v= .string b∧p= .str b):=by
 unfold cu at hr;rw [Lf h] at hr;have hr:jM P w Z k v p:=hr;cases hr with
 |int ht hn=>exact .inl ⟨_,_,ht,rfl,rfl⟩
 |bool ht=>rcases h with ⟨i,h⟩|h<;>rw [h] at ht<;>cases ht
 |str ht hs=>exact .inr ⟨_,ht,rfl,rfl⟩
 |nil ht=>rcases h with ⟨i,h⟩|h<;>rw [h] at ht<;>cases ht
 |sl ht=>rcases h with ⟨i,h⟩|h<;>rw [h] at ht<;>cases ht
theorem dw {s t:ByteArray}:aM s t=true↔s=t:=by
 unfold aM;simp only [decide_eq_true_eq];constructor
 ·intro h
  cases s; cases t;simp only [ByteArray.mk.injEq];exact Array.toList_inj.1 h
 ·rintro rfl; rfl
theorem BT {w w2:World} {Z Z2:Nat→Prop} {k:TypeId} (h:Am P k) {v v2:Value} {p p2:PV} (hr:cu P w Z k v p) (C6:cu P w2 Z2 k v2 p2): ∃ d,P.underlying k=some d∧Instr.sameNow d v v2=some (eM p p2)∧(eM p p2=true→v2=v)∧Sim.kindOk (some d) v=true:=by
 rcases DL h hr with ⟨i,n,h1,rfl,rfl⟩|⟨b,h1,rfl,rfl⟩
 ·rcases DL h C6 with ⟨i',n',h2,rfl,rfl⟩|⟨b',h2,rfl,rfl⟩
  ·rw [h1] at h2; cases h2
   refine ⟨_,h1,by simp [Instr.sameNow,eM],fun he=> ?_,by simp [Sim.kindOk]⟩;have:n=n':=by simpa [eM] using he
   rw [this]
  ·rw [h1] at h2; cases h2
 ·rcases DL h C6 with ⟨i',n',h2,rfl,rfl⟩|⟨b',h2,rfl,rfl⟩
  ·rw [h1] at h2; cases h2
  ·refine ⟨_,h1, ?_,fun he=> ?_,by simp [Sim.kindOk]⟩
   ·simp only [Instr.sameNow,eM]
    congr 1
    rw [Bool.eq_iff_iff,dw];simp only [TA,beq_iff_eq];exact ⟨fun h=>dw.1 (by unfold aM; simp only [decide_eq_true_eq]; exact h),fun h=>by rw [h]⟩
   ·have:=dw.1 he
    rw [this]
theorem find_spec {w:World} {Z:Nat→Prop} {k v:TypeId} (h:Am P k) {kv:Value} {kp:PV} (hr:cu P w Z k kv kp) {d:TypeDesc} (hd:P.underlying k=some d): ∀ (es:List MapEntry) (l:List PV) (i:Nat),es.length=l.length→(∀ (j:Nat) (e:MapEntry) (p:PV),es[j]? =some e→l[j]? =some p→cu P w Z k e.key (aj p 0)∧cu P w Z v e.val (aj p 1))→
  (Instr.findNow d kv es i=some none∧qh l kp=none∧ ∀ vp,cL l kp vp=l++[.agg [kp,vp]])∨
  ∃ j e p,es[j]? =some e∧l[j]? =some p∧e.key=kv∧Instr.findNow d kv es i=some (some (i+j,e.val))∧qh l kp=some (aj p 1)∧ ∀ vp,cL l kp vp=l.set j (.agg [kp,vp])
 |[],[],i,_,_=> .inl ⟨rfl,rfl,fun _=>rfl⟩
 |e::es,p::l,i,hl,he=>by
  obtain ⟨d',h1,h2,h3,_⟩:=BT h hr (he 0 e p rfl rfl).1;rw [hd] at h1;cases h1;cases hk:eM kp (aj p 0) with
  |true=>
   rw [hk] at h2;exact .inr ⟨0,e,p,rfl,rfl,h3 hk,by simp [Instr.findNow,h2],by simp [qh,hk],fun vp=>by simp [cL,hk]⟩
  |false=>
   rw [hk] at h2;rcases find_spec h hr hd es l (i+1) (by simpa using hl) (fun j e p a b=>he (j+1) e p (by simpa using a) (by simpa using b)) with ⟨g1,g2,g3⟩|⟨j,e',p',g1,g2,g3,g4,g5,g6⟩
   ·exact .inl ⟨by simp [Instr.findNow,h2,g1],by simp [qh,hk,g2],fun vp=>by simp [cL,hk,g3]⟩
   ·exact .inr ⟨j+1,e',p',by simpa using g1,by simpa using g2,g3,by simp [Instr.findNow,h2,g4]; omega,by simp [qh,hk,g5],fun vp=>by simp [cL,hk,g6]⟩
 |[],_::_,_,hl,_=>by simp at hl
 |_::_,[],_,hl,_=>by simp at hl
theorem p_ {t:TypeId} {q:TypeId×TypeId} {sem:Sem Value} {ob:Lay AO} (rl:Rel P m Z s.ob w) (hm:m fr=none) (ht:HF P t=some q) (qY:put s.ob fr (some (.mp t []))=some ob) (hs:sem.run P w= .ok (.map (some w.heap.size)) (w.alloc (.map #[] 0))) (e:K (.own fr) {s with ob:=ob}=some r):
  ∃ v s',K v s'=some r∧dh P m Z w s fr ((do pure (.value (← sem)):Sem Next).run P w) v s':=by
 obtain ⟨p1,p2⟩:=bX qY;obtain ⟨k,v⟩:=q;refine ⟨_,_,e,m.up fr (.mp w.heap.size),Z,_,_, .inl (aU hs),⟨.up hm _,fun i hi=>Mp.fR m _ hi,fun _ h=>h,fH.alloc rl _,fun b hb _=>RowKit.Below.heap_alloc _ _ _ hb,fun b hb=> .inl hb,fun p b hp hb=>by
  rw [Mp.bg] at hp; cases hp; cases hb; exact .inr (.inl (Nat.le_refl _))⟩, ?_,⟨_,Mp.bg ..,rfl⟩,rfl,rfl,p1⟩
 exact rl.alloc hm p2 rfl ⟨w.heap.size,k,v,Mp.bg ..,ir ht,fun hz=>absurd (rl.zb _ hz) (Nat.lt_irrefl _), #[],0,yG _ _,rfl,fun i e p h=>by simp at h⟩
theorem EJ {t t' k v:TypeId} {x:AV} {u:Value} {i:Nat} {l:List PV} (rl:Rel P m Z s.ob w) (hu:bD P m w Z x u) (e:TZ P s t x=some (i,t',k,v,l)):x= .own i∧HF P t=some (k,v)∧look s.ob i=some (.mp t' l)∧HF P t'=some (k,v)∧ ∃ b,m i=some (.mp b)∧u= .map (some b)∧X3 P w Z k v l b:=by
 unfold TZ at e;split at e
 ·rename_i k0 v0 j h1
  split at e
  ·rename_i t2 l2 h2
   split at e
   ·rename_i k2 v2 h3
    split at e
    ·rename_i h4 h5
     cases e;obtain rfl:=br h4;obtain rfl:=br h5;have hl:=Aj h2;obtain ⟨b,k3,v3,g1,g2,g3⟩:=rl.obj _ _ hl;rw [ir h3] at g2;cases g2;exact ⟨rfl,h1,hl,h3,b,g1,acC hu g1,g3⟩
    ·cases e
   ·cases e
  ·cases e
 ·cases e
theorem P4 {t:TypeId} {z:PV} (rl:Rel P m Z s.ob w) (e:zeroV P s t=some z): ∃ zv,(zeroValue t).run P w= .ok zv w∧cu P w Z t zv z:=by
 unfold zeroV at e;split at e
 ·rename_i zv hz
  split at e
  ·rename_i a ha
   split at e
   ·rename_i ho
    obtain ⟨g1,_⟩:=jO rl (qZ (m:=m) (w:=w) (Z:=Z) zv ha) e;rw [ho] at g1;refine ⟨zv,bW hz w,g1.mono (fun _ _=>rfl) fun b hb=> ?_⟩;rcases hb with hb|⟨i,hi,_⟩
    ·exact hb
    ·cases hi
   ·cases e
  ·cases e
 ·cases e
theorem cu.key {w w':World} {Z Z':Nat→Prop} {k:TypeId} (h:Am P k) {v:Value} {p:PV} (hr:cu P w Z k v p):cu P w' Z' k v p:=by
 unfold cu at hr ⊢;rw [Lf h] at hr ⊢;have hr:jM P w Z k v p:=hr;show jM P w' Z' k v p
 cases hr with
 |int ht hn=>exact .int ht hn
 |bool ht=>exact .bool ht
 |str ht hs=>exact .str ht hs
 |nil ht=>rcases h with ⟨i,h⟩|h<;>rw [h] at ht<;>cases ht
 |sl ht=>rcases h with ⟨i,h⟩|h<;>rw [h] at ht<;>cases ht
theorem yH {w:World} {Z:Nat→Prop} {k:TypeId} {kv:Value} {kp:PV} (h:Am P k) (hr:cu P w Z k kv kp) (b:Bool) (w':World):(Instr.checkKey b 10000 k kv).run P w'= .ok () w':=by
 obtain ⟨d,h1,_,_,h2⟩:=BT h hr hr;exact Sim.run_checkKey h1 h2 b w'
theorem pR {t:TypeId} {x y:AV} {u kv:Value} {ok:Bool} (rl:Rel P m Z s.ob w) (hu:bD P m w Z x u) (hv:bD P m w Z y kv) (e:yC P s K t x y ok=some r):
  ∃ v s',K v s'=some r∧dh P m Z w s fr ((do pure (.value (← Instr.lookup t u kv ok)):Sem Next).run P w) v s':=by
 unfold yC at e;split at e
 ·rename_i i t' k v l hin
  obtain ⟨kp,h1,e⟩:=aG e;obtain ⟨z,h2,e⟩:=aG e;obtain ⟨av,h3,e⟩:=aG e;obtain ⟨rfl,hT,hl,hT',b,hm,rfl,hz,es,ck,hh,hlen,sX⟩:=EJ rl hu hin;have hk:=P3 hT;have hkr:cu P w Z k kv kp:=(jO rl hv h1).1.key hk;obtain ⟨d,hd,_,_,abf⟩:=BT hk hkr hkr;obtain ⟨zv,hz1,OF⟩:=P4 rl h2;have hg:(getObj b).run P w= .ok (.map es ck) w:=by simp [getObj,Sem.run,hh]
  rcases find_spec hk hkr hd es.toList l 0 hlen sX with ⟨g1,g2,_⟩|⟨j,en,p,g1,g2,g3,g4,g5,_⟩
  ·have OL:(Instr.findKey k kv es.toList).run P w= .ok none w:=by simp [Instr.findKey,aD hd,g1]
   have hgd:qV l kp z=z:=by simp [qV,g2]
   have Ty:PG l kp=false:=by simp [PG,g2]
   rw [hgd] at h3;cases ok with
   |true=>
    dsimp only at e;rw [Ty] at e;refine ⟨_,_,e, .value rl (v':= .tuple #[zv, .bool false]) ?_ ⟨[zv, .bool false],rfl,jN OF h3,rfl,trivial⟩⟩;simp [Instr.lookup,aD (ir hT),hg,yH hk hkr,OL,hz1]
   |false=>
    refine ⟨_,_,e, .value rl (v':=zv) ?_ (jN OF h3)⟩;simp [Instr.lookup,aD (ir hT),hg,yH hk hkr,OL,hz1]
  ·have OL:(Instr.findKey k kv es.toList).run P w= .ok (some (0+j,en.val)) w:=by simp [Instr.findKey,aD hd,g4]
   have hgd:qV l kp z=aj p 1:=by simp [qV,g5]
   have Ty:PG l kp=true:=by simp [PG,g5]
   rw [hgd] at h3;have hev:=(sX j en p g1 g2).2;cases ok with
   |true=>
    dsimp only at e;rw [Ty] at e;refine ⟨_,_,e, .value rl (v':= .tuple #[en.val, .bool true]) ?_ ⟨[en.val, .bool true],rfl,jN hev h3,rfl,trivial⟩⟩;simp [Instr.lookup,aD (ir hT),hg,yH hk hkr,OL]
   |false=>
    refine ⟨_,_,e, .value rl (v':=en.val) ?_ (jN hev h3)⟩;simp [Instr.lookup,aD (ir hT),hg,yH hk hkr,OL]
 ·cases e
theorem Lg {t:TypeId} {x y z:AV} {u kv vv:Value} (rl:Rel P m Z s.ob w) (hu:bD P m w Z x u) (hy:bD P m w Z y kv) (hz:bD P m w Z z vv) (e:uO P s K t x y z=some r):
  ∃ v s',K v s'=some r∧dh P m Z w s fr ((do Instr.mapUpdate t u kv vv; pure .skip:Sem Next).run P w) v s':=by
 unfold uO at e;split at e
 ·rename_i i t' k v l hin
  obtain ⟨kp,h1,e⟩:=aG e;obtain ⟨vp,h2,e⟩:=aG e;obtain ⟨s1,h3,e⟩:=aG e;split at e
  ·rename_i ob q qY hmp
   obtain ⟨rfl,hT,hl,hT',b,hm,rfl,hmr⟩:=EJ rl hu hin;have hk:=P3 hT;have hkr:cu P w Z k kv kp:=(jO rl hy h1).1.key hk;obtain ⟨hvr,dW⟩:=jO rl hz h2;obtain ⟨d1,d2,d3,d4⟩:=iI h3;obtain ⟨p1,p2⟩:=bX qY;have rl1:=rl.drop dW h3;have hi1:look s1.ob i=some (.mp t' l):=by
    have hx:=Aj (e:=q.1) (l:=q.2) hmp;rw [d4] at hx ⊢;split at hx
    ·cases hx
    ·rename_i hne; rw [if_neg hne]; exact hl
   obtain ⟨b',k',v',g1,g2,Na,es,ck,hh,hlen,sX⟩:=rl1.obj i _ hi1;rw [hm] at g1; cases g1;rw [ir hT'] at g2; cases g2;obtain ⟨d,hd,_,_,abf⟩:=BT hk hkr hkr;have acE:cu P w (Zo m (lH P v z) Z) k kv kp:=hkr.key hk;have hg:(getObj b).run P w= .ok (.map es ck) w:=by simp [getObj,Sem.run,hh]
   have Mk: ∀ ms' Jy,(setObj b (.map ms' Jy)).run P w= .ok () (w.putObj b (.map ms' Jy)):=by intro ms' Jy; simp [setObj,Sem.run,hh,World.putObj]
   have acF:b<w.heap.size:=Sim.getElem?_lt' hh;have fin: ∀ (ms':Array MapEntry) (Jy:Nat),ms'.toList.length=(cL l kp vp).length→(∀ (j:Nat) (e:MapEntry) (p:PV),ms'.toList[j]? =some e→(cL l kp vp)[j]? =some p→cu P w (Zo m (lH P v z) Z) k e.key (aj p 0)∧cu P w (Zo m (lH P v z) Z) v e.val (aj p 1))→(Instr.mapUpdate t (.map (some b)) kv vv).run P w= .ok () (w.putObj b (.map ms' Jy))→
     ∃ v s',K v s'=some r∧dh P m Z w s fr ((do Instr.mapUpdate t (.map (some b)) kv vv; pure .skip:Sem Next).run P w) v s':=by
    intro ms' Jy q1 q2 q3;have hoff: ∀ q,q≠b→(w.putObj b (.map ms' Jy)).heap[q]? =w.heap[q]? :=fun q hq=>World.putObj_heap_other hq
    have hsz:w.heap.size=(w.putObj b (.map ms' Jy)).heap.size:=World.putObj_size.symm;have hkeep:fH (Zo m (lH P v z) Z) w (w.putObj b (.map ms' Jy)):=⟨rfl,rfl,rfl,Nat.le_of_eq hsz,fun q hq=>hoff q fun e=>Na (e ▸ hq)⟩;refine ⟨_,_,e,m,Zo m (lH P v z) Z,undef,w.putObj b (.map ms' Jy), .inr ⟨cM q3,rfl⟩,⟨.refl m,fun _ _=>rfl,fun _ h=> .sub h,⟨rfl,rfl,rfl,Nat.le_of_eq hsz,fun q hq=>hkeep.heap q (.sub hq)⟩,fun q _ hq=>hoff q fun e=>hq i _ _ hl hm (by rw [e]; rfl),fun q hq=>Zo.old dW hq,fun _ _ h _=> .inl h⟩, ?_,⟨[],rfl,trivial⟩,d1,d2,d3.trans p1⟩;refine rl1.write hi1 hm rfl p2 hsz hoff ⟨b,k,v,hm,ir hT',Na,ms',Jy,World.putObj_heap_same acF,q1,fun j e p a c=> ?_⟩;obtain ⟨x1,x2⟩:=q2 j e p a c;exact ⟨x1.mono hkeep.heap (fun _ h=>h),x2.mono hkeep.heap (fun _ h=>h)⟩
   rcases find_spec hk acE hd es.toList l 0 hlen sX with ⟨g1,g2,g3⟩|⟨j,en,p,g1,g2,g3,g4,g5,g6⟩
   ·have OL:(Instr.findKey k kv es.toList).run P w= .ok none w:=by simp [Instr.findKey,aD hd,g1]
    refine fin (es.push {key:=kv,val:=vv,born:=ck}) (ck+1) (by rw [g3]; simp [hlen]) (fun j e p a c=> ?_) (by simp [Instr.mapUpdate,aD (ir hT),hg,yH hk hkr,OL,Mk]);rw [g3] at c;rw [Array.toList_push] at a;by_cases hj:j<es.toList.length
    ·rw [List.getElem?_append_left hj] at a
     rw [List.getElem?_append_left (by omega)] at c;exact sX j e p a c
    ·rw [List.getElem?_append_right (by omega)] at a c
     rw [← hlen] at c;cases hj2:j - es.toList.length with
     |zero=>
      rw [hj2] at a c;simp at a c;subst a; subst c;exact ⟨acE,hvr⟩
     |succ n=>rw [hj2] at a; simp at a
   ·have OL:(Instr.findKey k kv es.toList).run P w= .ok (some (0+j,en.val)) w:=by simp [Instr.findKey,aD hd,g4]
    have OM:es[j]? =some en:=by simpa using g1
    have W8:(Instr.keyThatStays en.key kv).run P w= .ok kv w:=by rw [g3]; simp [Instr.keyThatStays,p0 abf]
    have hmod:(es.modify j fun e=>{e with key:=kv,val:=vv}).toList=es.toList.set j {en with key:=kv,val:=vv}:=by
     apply List.ext_getElem?;intro q;rw [Array.getElem?_toList,Array.getElem?_modify,List.getElem?_set,Array.getElem?_toList];by_cases hq:j=q
     ·subst hq
      have:=Sim.getElem?_lt' OM;have hge:es[j]=en:=by rw [Array.getElem?_eq_getElem this] at OM; exact Option.some.inj OM
      simp [OM,this,hge]
     ·simp [hq]
    refine fin (es.modify j fun e=>{e with key:=kv,val:=vv}) ck (by rw [g6,hmod]; simp [hlen]) (fun j2 e p2 a c=> ?_) (by simp [Instr.mapUpdate,aD (ir hT),hg,yH hk hkr,OL,Mk,OM,W8]);rw [g6] at c;rw [hmod] at a;rw [List.getElem?_set] at a c;by_cases hj:j=j2
    ·subst hj
     rw [if_pos rfl] at a c;split at a
     ·cases a
      split at c
      ·cases c; exact ⟨acE,hvr⟩
      ·cases c
     ·cases a
    ·rw [if_neg hj] at a c
     exact sX j2 e p2 a c
  ·cases e
 ·cases e
end Go.Sy
