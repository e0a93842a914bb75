/-
  Proved here: turn.Safe and the reference's Safe answer the same, in plain Lean. Its conditions, on the data, stand in the theorems (numbers in their range, lists within the row's reach).
-/
import Derived.Test.YtbpoloanmichbaaGreatDoorD
set_option linter.unusedVariables false
set_option linter.unusedSimpArgs false
namespace Go.Sy.V
open PV Go.Sy
noncomputable section
section
variable {R:Type}
@[simp] theorem aR (l:List PV) (k:List PV→Option R):aq (some (.inl l)) k=k l:=rfl
@[simp] theorem VL (r:R) (k:List PV→Option R):aq (some (.inr r)) k=some r:=rfl
@[simp] theorem an {α:Type} (a:α) (k:α→Option R):andThen (some a) k=k a:=rfl
@[simp] theorem au (x:Option R):aC true x=x:=rfl
@[simp] theorem dY (r:R):ay (some r)=some (.inr r):=rfl
end
@[simp] theorem gN {α:Type} (b:Bool) (x y:α):cond b (some x) (some y)=some (cond b x y):=by cases b<;>rfl
@[simp] theorem mh {α β:Type} (b:Bool) (x y:α):cond b (Sum.inl x:α ⊕ β) (.inl y)= .inl (cond b x y):=by cases b<;>rfl
@[simp] theorem Qs {α β:Type} (b:Bool) (x y:β):cond b (Sum.inr x:α ⊕ β) (.inr y)= .inr (cond b x y):=by cases b<;>rfl
@[simp] theorem gO {α:Type} (b:Bool) (x y:α) (l m:List α):cond b (x::l) (y::m)=cond b x y::cond b l m:=by cases b<;>rfl
@[simp] theorem je {α:Type} (b:Bool):cond b ([]:List α) []=[]:=by cases b<;>rfl
@[simp] theorem fA (b x y:Bool):cond b (PV.bool x) (.bool y)= .bool (cond b x y):=by cases b<;>rfl
@[simp] theorem VM (b:Bool) (x y:Int):cond b (PV.int x) (.int y)= .int (cond b x y):=by cases b<;>rfl
@[simp] theorem adU (b:Bool) (x y:ByteArray):cond b (PV.str x) (.str y)= .str (cond b x y):=by cases b<;>rfl
@[simp] theorem ac8 (b:Bool) (x y:List PV):cond b (PV.list x) (.list y)= .list (cond b x y):=by cases b<;>rfl
@[simp] theorem adV (b:Bool) (x y:List PV):cond b (PV.agg x) (.agg y)= .agg (cond b x y):=by cases b<;>rfl
@[simp] theorem toInt_int (n:Int):(PV.int n).toInt=n:=rfl
@[simp] theorem ak (n:Bool):(PV.bool n).toBool=n:=rfl
@[simp] theorem aS (n:ByteArray):(PV.str n).toStr=n:=rfl
@[simp] theorem aE (n:List PV):(PV.list n).toList=n:=rfl
@[simp] theorem adW (n:List PV):(PV.agg n).cells=n:=rfl
@[simp] theorem cU (l:List PV) (j:Nat):aj (.agg l) j=nth l j:=rfl
@[simp] theorem aA (a:PV) (l:List PV):nth (a::l) 0=a:=rfl
@[simp] theorem aQ (a b:PV) (l:List PV):nth (a::b::l) 1=b:=rfl
@[simp] theorem aia (a:PV) (l:List PV) (n:Nat):nth (a::l) (n+1)=nth l n:=rfl
@[simp] theorem bJ (a0 a1 a2:PV) (l:List PV):nth (a0::a1::a2::l) 2=a2:=rfl
@[simp] theorem ga (a0 a1 a2 a3:PV) (l:List PV):nth (a0::a1::a2::a3::l) 3=a3:=rfl
@[simp] theorem kW (a0 a1 a2 a3 a4:PV) (l:List PV):nth (a0::a1::a2::a3::a4::l) 4=a4:=rfl
@[simp] theorem mH (a0 a1 a2 a3 a4 a5:PV) (l:List PV):nth (a0::a1::a2::a3::a4::a5::l) 5=a5:=rfl
@[simp] theorem oh (a0 a1 a2 a3 a4 a5 a6:PV) (l:List PV):nth (a0::a1::a2::a3::a4::a5::a6::l) 6=a6:=rfl
@[simp] theorem tM (a0 a1 a2 a3 a4 a5 a6 a7:PV) (l:List PV):nth (a0::a1::a2::a3::a4::a5::a6::a7::l) 7=a7:=rfl
@[simp] theorem tN (a0 a1 a2 a3 a4 a5 a6 a7 a8:PV) (l:List PV):nth (a0::a1::a2::a3::a4::a5::a6::a7::a8::l) 8=a8:=rfl
@[simp] theorem tO (a0 a1 a2 a3 a4 a5 a6 a7 a8 a9:PV) (l:List PV):nth (a0::a1::a2::a3::a4::a5::a6::a7::a8::a9::l) 9=a9:=rfl
@[simp] theorem mW (a0 a1 a2 a3 a4 a5 a6 a7 a8 a9 yK:PV) (l:List PV):nth (a0::a1::a2::a3::a4::a5::a6::a7::a8::a9::yK::l) 10=yK:=rfl
@[simp] theorem mj (a0 a1 a2 a3 a4 a5 a6 a7 a8 a9 yK zn:PV) (l:List PV):nth (a0::a1::a2::a3::a4::a5::a6::a7::a8::a9::yK::zn::l) 11=zn:=rfl
@[simp] theorem mX (a0 a1 a2 a3 a4 a5 a6 a7 a8 a9 yK zn P2:PV) (l:List PV):nth (a0::a1::a2::a3::a4::a5::a6::a7::a8::a9::yK::zn::P2::l) 12=P2:=rfl
@[simp] theorem mY (a0 a1 a2 a3 a4 a5 a6 a7 a8 a9 yK zn P2 EW:PV) (l:List PV):nth (a0::a1::a2::a3::a4::a5::a6::a7::a8::a9::yK::zn::P2::EW::l) 13=EW:=rfl
@[simp] theorem mZ (a0 a1 a2 a3 a4 a5 a6 a7 a8 a9 yK zn P2 EW Gu:PV) (l:List PV):nth (a0::a1::a2::a3::a4::a5::a6::a7::a8::a9::yK::zn::P2::EW::Gu::l) 14=Gu:=rfl
@[simp] theorem m5 (a0 a1 a2 a3 a4 a5 a6 a7 a8 a9 yK zn P2 EW Gu JA:PV) (l:List PV):nth (a0::a1::a2::a3::a4::a5::a6::a7::a8::a9::yK::zn::P2::EW::Gu::JA::l) 15=JA:=rfl
@[simp] theorem m6 (a0 a1 a2 a3 a4 a5 a6 a7 a8 a9 yK zn P2 EW Gu JA Lv:PV) (l:List PV):nth (a0::a1::a2::a3::a4::a5::a6::a7::a8::a9::yK::zn::P2::EW::Gu::JA::Lv::l) 16=Lv:=rfl
@[simp] theorem m7 (a0 a1 a2 a3 a4 a5 a6 a7 a8 a9 yK zn P2 EW Gu JA Lv Oe:PV) (l:List PV):nth (a0::a1::a2::a3::a4::a5::a6::a7::a8::a9::yK::zn::P2::EW::Gu::JA::Lv::Oe::l) 17=Oe:=rfl
@[simp] theorem m8 (a0 a1 a2 a3 a4 a5 a6 a7 a8 a9 yK zn P2 EW Gu JA Lv Oe Rw:PV) (l:List PV):nth (a0::a1::a2::a3::a4::a5::a6::a7::a8::a9::yK::zn::P2::EW::Gu::JA::Lv::Oe::Rw::l) 18=Rw:=rfl
@[simp] theorem m9 (a0 a1 a2 a3 a4 a5 a6 a7 a8 a9 yK zn P2 EW Gu JA Lv Oe Rw Us:PV) (l:List PV):nth (a0::a1::a2::a3::a4::a5::a6::a7::a8::a9::yK::zn::P2::EW::Gu::JA::Lv::Oe::Rw::Us::l) 19=Us:=rfl
@[simp] theorem ahN (a0 a1 a2 a3 a4 a5 a6 a7 a8 a9 yK zn P2 EW Gu JA Lv Oe Rw Us a20:PV) (l:List PV):nth (a0::a1::a2::a3::a4::a5::a6::a7::a8::a9::yK::zn::P2::EW::Gu::JA::Lv::Oe::Rw::Us::a20::l) 20=a20:=rfl
@[simp] theorem ahO (a0 a1 a2 a3 a4 a5 a6 a7 a8 a9 yK zn P2 EW Gu JA Lv Oe Rw Us a20 a21:PV) (l:List PV):nth (a0::a1::a2::a3::a4::a5::a6::a7::a8::a9::yK::zn::P2::EW::Gu::JA::Lv::Oe::Rw::Us::a20::a21::l) 21=a21:=rfl
@[simp] theorem ahP (a0 a1 a2 a3 a4 a5 a6 a7 a8 a9 yK zn P2 EW Gu JA Lv Oe Rw Us a20 a21 a22:PV) (l:List PV):nth (a0::a1::a2::a3::a4::a5::a6::a7::a8::a9::yK::zn::P2::EW::Gu::JA::Lv::Oe::Rw::Us::a20::a21::a22::l) 22=a22:=rfl
@[simp] theorem ahQ (a0 a1 a2 a3 a4 a5 a6 a7 a8 a9 yK zn P2 EW Gu JA Lv Oe Rw Us a20 a21 a22 a23:PV) (l:List PV):nth (a0::a1::a2::a3::a4::a5::a6::a7::a8::a9::yK::zn::P2::EW::Gu::JA::Lv::Oe::Rw::Us::a20::a21::a22::a23::l) 23=a23:=rfl
@[simp] theorem ahR (a0 a1 a2 a3 a4 a5 a6 a7 a8 a9 yK zn P2 EW Gu JA Lv Oe Rw Us a20 a21 a22 a23 a24:PV) (l:List PV):nth (a0::a1::a2::a3::a4::a5::a6::a7::a8::a9::yK::zn::P2::EW::Gu::JA::Lv::Oe::Rw::Us::a20::a21::a22::a23::a24::l) 24=a24:=rfl
@[simp] theorem ahS (a0 a1 a2 a3 a4 a5 a6 a7 a8 a9 yK zn P2 EW Gu JA Lv Oe Rw Us a20 a21 a22 a23 a24 a25:PV) (l:List PV):nth (a0::a1::a2::a3::a4::a5::a6::a7::a8::a9::yK::zn::P2::EW::Gu::JA::Lv::Oe::Rw::Us::a20::a21::a22::a23::a24::a25::l) 25=a25:=rfl
theorem e_ {i n:Nat} (h:i<n):aK (i:Int) n=true:=by simp [aK]; omega
theorem iQ {i n:Nat} (h: ¬ i<n):aK (i:Int) n=false:=by simp [aK]; omega
theorem aB {i n:Nat} (h:i<n):bp (i:Int) n=true:=by simp [bp]; omega
theorem wrap_i64 {n:Int} (h1: -9223372036854775808≤n) (h2:n<9223372036854775808):IntKind.i64.wrap n=n:=by
 simp [IntKind.wrap,IntKind.bits,IntKind.signed]; omega
theorem Ut {R:Type} (f:List PV→Option (List PV ⊕ R)) (ρ:List PV) (r:R) (n:Nat) (h:rounds f n ρ=some r):iter f ρ=some r:=by
 have mono: ∀ n m ρ (r:R),rounds f n ρ=some r→n≤m→rounds f m ρ=some r:=by
  intro n;induction n with
  |zero=>intro m ρ r h; simp [rounds] at h
  |succ n ih=>
   intro m ρ r h hm;obtain ⟨m,rfl⟩: ∃ k,m=k+1:=⟨m - 1,by omega⟩;simp only [rounds] at h ⊢;split at h
   ·simp at h
   ·exact ih _ _ _ h (by omega)
   ·exact h
 have hx: ∃ r n,rounds f n ρ=some r:=⟨r,n,h⟩;have:=hx.choose_spec;obtain ⟨m,hm⟩:=this;simp only [iter,dif_pos hx];have h1:=mono _ (max m n) _ _ hm (by omega);have h2:=mono _ (max m n) _ _ h (by omega);rw [h1] at h2; exact h2
theorem b_ {R:Type} (f:List PV→Option (List PV ⊕ R)) (ρ:List PV):iter f ρ=aq (f ρ) (iter f):=by
 by_cases hx: ∃ r n,rounds f n ρ=some r
 ·obtain ⟨r,n,h⟩:=hx
  rw [Ut f ρ r n h];cases n with
  |zero=>simp [rounds] at h
  |succ n=>
   simp only [rounds] at h;split at h
   ·simp at h
   ·rename_i e; rw [e]; simp [Ut f _ r n h]
   ·rename_i e; rw [e]; simp_all
 ·have:iter f ρ=none:=by simp only [iter,dif_neg hx]
  rw [this]
  match h:f ρ with
  |none=>rfl
  |some (.inr r)=>exact (hx ⟨r,1,by simp [rounds,h]⟩).elim
  |some (.inl ρ')=>
   simp only [aR];by_cases hy: ∃ r n,rounds f n ρ'=some r
   ·obtain ⟨r,n,h'⟩:=hy
    exact (hx ⟨r,n+1,by simp [rounds,h,h']⟩).elim
   ·simp only [iter,dif_neg hy]
def scan {R:Type} (step:Nat→Option R) (fin:R):Nat→Nat→R
 |0,_=>fin
 |k+1,i=>match step i with
  |some r=>r
  |none=>scan step fin k (i+1)
theorem aaF {R:Type} (L:List PV) (step:PV→Option R) (fin:R): ∀ k i,i+k=L.length→scan (fun i=>step (rd L i)) fin k i=((L.drop i).findSome? step).getD fin:=by
 intro k;induction k with
 |zero=>intro i e; simp [scan,List.drop_eq_nil_of_le (show L.length≤i by omega)]
 |succ k ih=>
  intro i e;have hi:i<L.length:=by omega
  rw [List.drop_eq_getElem_cons hi];have e1:rd L i=L[i]:=by simp [rd,hi]
  simp only [scan,List.findSome?_cons,e1];cases step L[i] with
  |some r=>rfl
  |none=>exact ih (i+1) (by omega)
theorem Av {R:Type} (n st:Nat) (hn:n≤aN) (rest:List PV) (B:List PV→Option (List PV ⊕ R)) (E:Option R) (step:Nat→Option R)
  (hB: ∀ i:Nat,i<n→st≤i→B (.int i::rest)=some (match step i with|some r=> .inr r|none=> .inl (.int (IntKind.i64.wrap (i+1))::rest))):
  iter (fun ρ=>cond (aK (nth ρ 0).toInt (n:Int)) (B ρ) (ay E)) (.int st::rest)=scan (fun i=>(step i).map some) E (n - st) st:=by
 have hw: ∀ i:Nat,i<n→IntKind.i64.wrap ((i:Int)+1)=((i+1:Nat):Int):=by
  intro i hi; rw [wrap_i64 (by omega) (by simp only [aN] at hn; omega)]; simp
 have key: ∀ k i:Nat,k=n - i→st≤i→iter (fun ρ=>cond (aK (nth ρ 0).toInt (n:Int)) (B ρ) (ay E)) (.int i::rest)=scan (fun i=>(step i).map some) E k i:=by
  intro k;induction k with
  |zero=>intro i e hs; rw [b_]; simp [scan,iQ (show ¬ i<n by omega)]; cases E<;>rfl
  |succ k ih=>
   intro i e hs;rw [b_];have hi:i<n:=by omega
   simp only [aA,toInt_int,e_ hi,cond_true,hB i hi hs,scan];cases step i with
   |some r=>rfl
   |none=>simp only [aR,hw i hi]; exact ih (i+1) (by omega) (by omega)
 exact key (n - st) st rfl (by omega)
theorem bO {R:Type} (n:Nat) (hn:n≤aN) (rest:List PV) (B:List PV→Option (List PV ⊕ R)) (E:Option R) (step:Nat→Option R)
  (hB: ∀ i:Nat,i<n→B (.int i::rest)=some (match step i with|some r=> .inr r|none=> .inl (.int (IntKind.i64.wrap (i+1))::rest))):
  iter (fun ρ=>cond (aK (nth ρ 0).toInt (n:Int)) (B ρ) (ay E)) (.int 0::rest)=scan (fun i=>(step i).map some) E n 0:=Av n 0 hn rest B E step (fun i h _=>hB i h)
theorem m_ {L:List PV} {i:Nat} (h:i<L.length):rd L i∈L:=by simp [rd,h]
theorem vq {R:Type} (L:List PV) (hn:L.length≤aN) (rest:List PV) (B:List PV→Option (List PV ⊕ R)) (E:Option R) (step:PV→Option R)
  (hB: ∀ i:Nat,i<L.length→rd L i∈L→B (.int i::rest)=some (match step (rd L i) with|some r=> .inr r|none=> .inl (.int (IntKind.i64.wrap (i+1))::rest))):
  iter (fun ρ=>cond (aK (nth ρ 0).toInt (L.length:Int)) (B ρ) (ay E)) (.int 0::rest)=(L.findSome? fun x=>(step x).map some).getD E:=by
 have:=Av L.length 0 hn rest B E (fun i=>step (rd L i)) (fun i h _=>hB i h (m_ h));rw [aaF L (fun x=>(step x).map some) E (L.length - 0) 0 (by omega)] at this;exact this
theorem aY {R:Type} (L:List PV) (hn:L.length≤aN) (rest:List PV) (B:List PV→Option (List PV ⊕ R)) (E:Option R) (bad:R) (p:PV→Bool)
  (hB: ∀ i:Nat,i<L.length→rd L i∈L→B (.int i::rest)=some (cond (p (rd L i)) (.inl (.int (IntKind.i64.wrap (i+1))::rest)) (.inr bad))):
  iter (fun ρ=>cond (aK (nth ρ 0).toInt (L.length:Int)) (B ρ) (ay E)) (.int 0::rest)=cond (L.all p) E (some bad):=by
 rw [vq L hn rest B E (fun x=>cond (p x) none (some bad)) (fun i h hm=>by rw [hB i h hm]; cases p (rd L i)<;>rfl)];clear hB hn;induction L with
 |nil=>rfl
 |cons a l ih=>
  simp only [List.findSome?_cons,List.all_cons];cases h:p a with
  |false=>rfl
  |true=>simpa using ih
theorem fV {R:Type} (L:List PV) (hn:L.length≤aN) (rest:List PV) (B:List PV→Option (List PV ⊕ R)) (E:Option R) (g:PV→R) (p:PV→Bool)
  (hB: ∀ i:Nat,i<L.length→rd L i∈L→B (.int i::rest)=some (cond (p (rd L i)) (.inr (g (rd L i))) (.inl (.int (IntKind.i64.wrap (i+1))::rest)))):
  iter (fun ρ=>cond (aK (nth ρ 0).toInt (L.length:Int)) (B ρ) (ay E)) (.int 0::rest)=match L.find? p with|some x=>some (g x)|none=>E:=by
 rw [vq L hn rest B E (fun x=>cond (p x) (some (g x)) none) (fun i h hm=>by rw [hB i h hm]; cases p (rd L i)<;>rfl)];clear hB hn;induction L with
 |nil=>rfl
 |cons a l ih=>
  simp only [List.findSome?_cons,List.find?_cons];cases h:p a with
  |true=>rfl
  |false=>simpa using ih
theorem B6 {R:Type} (L:List PV) (hn:L.length≤aN) (B:List PV→Option (List PV ⊕ (List PV ⊕ R))) (bad:PV→Bool) (k:List PV→Option R) (kt kf:Option R)
  (hB: ∀ i:Nat,i<L.length→rd L i∈L→B [.int i]=some (cond (bad (rd L i)) (.inr (.inl [.int i])) (.inl [.int (IntKind.i64.wrap (i+1))])))
  (h1: ∀ i:Nat,k [.int i]=kt) (h2:k [.int (-1)]=kf):
  aq (iter (fun ρ=>cond (aK (nth ρ 0).toInt (L.length:Int)) (B ρ) (ay (some (.inl [.int (-1)])))) [.int 0]) k=cond (L.any bad) kt kf:=by
 rw [bO L.length hn [] B _ (fun i=>cond (bad (rd L i)) (some (.inl [.int i])) none) (fun i h=>by rw [hB i h (m_ h)]; cases bad (rd L i)<;>rfl)];clear hB;have key: ∀ k' i,i+k'=L.length→aq (scan (fun i=>(cond (bad (rd L i)) (some (Sum.inl [PV.int i])) none:Option (List PV ⊕ R)).map some) (some (.inl [.int (-1)])) k' i) k=cond ((L.drop i).any bad) kt kf:=by
  intro k';induction k' with
  |zero=>intro i e; simp [scan,List.drop_eq_nil_of_le (show L.length≤i by omega),h2]
  |succ k' ih=>
   intro i e;have hi:i<L.length:=by omega
   rw [List.drop_eq_getElem_cons hi];have e1:rd L i=L[i]:=by simp [rd,hi]
   simp only [scan,List.any_cons,e1];cases bad L[i] with
   |true=>simp [h1]
   |false=>simpa using ih (i+1) (by omega)
 simpa using key L.length 0 (by omega)
theorem tP {R:Type} (L:List PV) (hn:L.length≤aN) (B:List PV→Option (List PV ⊕ R)) (E:List PV→Option R) (g:PV→PV→PV) (I:Nat→PV→Prop)
  (hI: ∀ i:Nat,i<L.length→ ∀ a,I i a→I (i+1) (g a (rd L i)))
  (hB: ∀ i:Nat,i<L.length→rd L i∈L→ ∀ a,I i a→B [a, .int i]=some (.inl [g a (rd L i), .int (IntKind.i64.wrap (i+1))])) (a:PV) (ha:I 0 a):
  iter (fun ρ=>cond (aK (nth ρ 1).toInt (L.length:Int)) (B ρ) (ay (E ρ))) [a, .int 0]=E [L.foldl g a, .int L.length]:=by
 have hw: ∀ i:Nat,i<L.length→IntKind.i64.wrap ((i:Int)+1)=((i+1:Nat):Int):=by
  intro i hi; rw [wrap_i64 (by omega) (by simp only [aN] at hn; omega)]; simp
 have key: ∀ k i:Nat,k+i=L.length→ ∀ a,I i a→iter (fun ρ=>cond (aK (nth ρ 1).toInt (L.length:Int)) (B ρ) (ay (E ρ))) [a, .int i]=E [(L.drop i).foldl g a, .int L.length]:=by
  intro k;induction k with
  |zero=>
   intro i e a ha;obtain rfl:i=L.length:=by omega
   rw [b_]; simp [aK]; cases E _<;>rfl
  |succ k ih=>
   intro i e a ha;rw [b_];have hi:i<L.length:=by omega
   simp only [aQ,toInt_int,e_ hi,cond_true,hB i hi (m_ hi) a ha,aR,hw i hi];rw [ih (i+1) (by omega) _ (hI i hi a ha),List.drop_eq_getElem_cons hi,List.foldl_cons];have e1:rd L i=L[i]:=by simp [rd,hi]
   rw [e1]
 exact key L.length 0 (by omega) a ha
theorem B7 (L:List PV) (h:PV→List PV) (b:List PV):L.foldl (fun a x=>PV.list (a.toList++h x)) (PV.list b)=PV.list (b++L.flatMap h):=by
 induction L generalizing b with
 |nil=>simp
 |cons a l ih=>simp only [List.foldl_cons,ih,aE,List.flatMap_cons,List.append_assoc]
theorem bh {b n:Nat} (hb:b≤1000) (hn:n≤4096):dO b n=true:=by
 have:n*b≤4096*1000:=Nat.mul_le_mul hn hb;simp only [dO,Bool.and_eq_true,Nat.ble_eq]; omega
inductive Wf:PV→Prop where
 |int (n:Int): -9223372036854775808≤n→n<18446744073709551616→Wf (.int n)
 |bool (b:Bool):Wf (.bool b)
 |str (s:ByteArray):s.size≤aN→Wf (.str s)
 |list (l:List PV):l.length≤aN→(∀ p∈l,Wf p)→Wf (.list l)
 |agg (l:List PV):(∀ p∈l,Wf p)→Wf (.agg l)
theorem Wf.zero:Wf PV.zero:= .int 0 (by decide) (by decide)
@[simp] theorem agr (b:Bool):Wf (.bool b):= .bool b
@[simp] theorem afO {p:PV} (h:Wf p):Wf (.int p.toInt):=by
 cases h with
 |int n a b=>exact .int n a b
 |_=>exact Wf.zero
theorem Wf.lo {p:PV} (h:Wf p): -9223372036854775808≤p.toInt:=by
 cases h with
 |int n a b=>exact a
 |_=>simp [PV.toInt]
theorem Wf.hi {p:PV} (h:Wf p):p.toInt<18446744073709551616:=by
 cases h with
 |int n a b=>exact b
 |_=>simp [PV.toInt]
@[simp] theorem Wf.size {p:PV} (h:Wf p):p.toStr.size≤aN:=by
 cases h with
 |str s a=>exact a
 |_=>simp [PV.toStr,ByteArray.size]
@[simp] theorem Wf.len {p:PV} (h:Wf p):p.toList.length≤aN:=by
 cases h with
 |list s a b=>exact a
 |_=>simp [PV.toList]
theorem Wf.mem {p q:PV} (h:Wf p) (hq:q∈p.toList):Wf q:=by
 cases h with
 |list s a b=>exact b q hq
 |_=>simp [PV.toList] at hq
theorem Uu {l:List PV} (h: ∀ p∈l,Wf p) (i:Nat):Wf (l.getD i .zero):=by
 rw [List.getD_eq_getElem?_getD];by_cases hi:i<l.length
 ·simp [hi]; exact h _ (List.getElem_mem hi)
 ·rw [List.getElem?_eq_none (by omega)]; exact Wf.zero
theorem Wf.cells {p:PV} (h:Wf p): ∀ q∈p.cells,Wf q:=by
 cases h with
 |agg s b=>exact b
 |_=>intro q hq; simp [PV.cells] at hq
@[simp] theorem Wf.aj {p:PV} (h:Wf p) (j:Nat):Wf (aj p j):=Uu h.cells j
@[simp] theorem Wf.rd {p:PV} (h:Wf p) (i:Int):Wf (rd p.toList i):=Uu (fun _=>h.mem) _
@[simp] theorem Wf.aJ {p:PV} (h:Wf p) (a b:Nat):Wf (aJ p a b):= .agg _ (fun q hq=>h.cells q (List.mem_of_mem_drop (List.mem_of_mem_take hq)))
@[simp] theorem ahT {s:ByteArray}:Wf (.str s)↔s.size≤aN:=⟨fun h=>by cases h; assumption, .str s⟩
@[simp] theorem ags {s:List PV}:Wf (.list s)↔s.length≤aN∧ ∀ p∈s,Wf p:=⟨fun h=>by cases h; exact ⟨by assumption,by assumption⟩,fun h=> .list s h.1 h.2⟩
end
end Go.Sy.V
namespace Go.Sy.V
open PV Go.Sy
noncomputable section
end
end Go.Sy.V
namespace Go.Sy.V
open PV Go.Sy
noncomputable section
end
end Go.Sy.V
namespace Go.Sy.V
open PV Go.Sy
noncomputable section
end
end Go.Sy.V
namespace Go.Sy.V
open PV Go.Sy
noncomputable section
def mE (s:ByteArray) (p:PV):Bool:=aM (aj p 0).toStr s
def Ca (u:PV):PV:= .agg [.str (aj u 0).toStr, .bool (aj u 1).toBool, .bool (aj u 2).toBool, .int (aj u 3).toInt, .int (aj u 4).toInt, .int (aj u 5).toInt, .int (aj u 6).toInt, .int (aj u 7).toInt, .int (aj u 8).toInt, .int (aj u 9).toInt, .int (aj u 10).toInt, .int (aj u 11).toInt, .str (aj u 12).toStr, .int (aj u 13).toInt, .int (aj u 14).toInt, .int (aj u 15).toInt, .list (aj u 16).toList, .list (aj u 17).toList, .list (aj u 18).toList]
def uh (L:List PV) (s:ByteArray):PV:=(L.find? (mE s)).getD .zero
def has (L:List PV) (s:ByteArray):Bool:=(L.find? (mE s)).isSome
theorem mo (l:List PV) (h:dO 16 l.length=true):cj [.list l]=some l:=by
 simp only [cj,aA,aE];cases l with
 |nil=>simp only [HJ,cond_true,cond_false,List.length_nil,Nat.add_zero,bh (b:=16) (n:=0) (by omega) (by omega),au,List.append_nil,Ai]
 |cons a l=>simp only [HJ,cond_false,List.length_nil,Nat.zero_add,h,au,List.nil_append]
theorem Lx (u:PV) (h1:dO 16 (aj u 16).toList.length=true) (h2:dO 16 (aj u 17).toList.length=true) (h3:dO 16 (aj u 18).toList.length=true):gW [u]=some [Ca u]:=by
 simp only [gW,aA];rw [mo _ h1,mo _ h2,mo _ h3]; rfl
theorem Gw {L:List PV} {s:ByteArray} {P:PV→Prop} (h0:P .zero) (h: ∀ u∈L,P u):P (uh L s):=by
 unfold uh;cases e:L.find? (mE s) with
 |none=>exact h0
 |some u=>exact h u (List.mem_of_find?_eq_some e)
def YN (L:List PV) (s:ByteArray) (z:PV):PV:=(L.find? (mE s)).getD z
def zU:PV:= .agg [.str (ByteArray.mk #[]), .bool false, .bool false, .int 0, .int 0, .int 0, .int 0, .int 0, .int 0, .int 0, .int 0, .int 0, .str (ByteArray.mk #[]), .int 0, .int 0, .int 0, .list [], .list [], .list []]
end
end Go.Sy.V
namespace Go.Sy.V
open PV Go.Sy
noncomputable section
theorem dx {R:Type} (L:List PV) (hn:L.length≤aN) (B:List PV→Option (List PV ⊕ (List PV ⊕ R))) (bad:PV→Bool) (k:List PV→Option R)
  (hB: ∀ i:Nat,i<L.length→rd L i∈L→B [.int i]=some (cond (bad (rd L i)) (.inr (.inl [.int i])) (.inl [.int (IntKind.i64.wrap (i+1))])))
  (h1: ∀ i:Nat,k [.int i]=k [.int 0]):
  aq (iter (fun ρ=>cond (aK (nth ρ 0).toInt (L.length:Int)) (B ρ) (ay (some (.inl [.int (-1)])))) [.int 0]) k=cond (L.any bad) (k [.int 0]) (k [.int (-1)]):=B6 L hn B bad k _ _ hB h1 rfl
end
end Go.Sy.V
namespace Go.Sy.V
open PV Go.Sy
noncomputable section
theorem Iu (L:List PV) (s):(aj (YN L s zU) 1).toBool=(aj (uh L s) 1).toBool:=by
 unfold YN uh; cases L.find? (mE s)<;>rfl
end
end Go.Sy.V
namespace Go.Sy.V
open PV Go.Sy
noncomputable section
def lt (s t:ByteArray):Prop:=s.data.toList<t.data.toList
instance ah4:DecidableEq ByteArray:=fun s t=>decidable_of_iff (aM s t=true) dw
end
end Go.Sy.V
namespace Go.Sy.V
open PV Go.Sy
noncomputable section
end
end Go.Sy.V
namespace Go.Sy.V
open PV Go.Sy
noncomputable section
end
end Go.Sy.V
namespace Go.Sy.V
open PV Go.Sy
noncomputable section
end
end Go.Sy.V
namespace Go.Sy.V
open PV Go.Sy
noncomputable section
end
end Go.Sy.V
namespace Go.Sy.V
open PV Go.Sy
noncomputable section
def jE (x:Int):Int:=jL (-1048576) (mR x 1048576)
theorem ahW (x:Int):mR (jL x (-1048576)) 1048576=jE x:=by
 simp only [jE,mR,jL]; repeat' split
 all_goals omega
theorem Ay (x:Int): -1048576≤jE x:=by
 simp only [jE,mR,jL]; repeat' split
 all_goals omega
theorem Az (x:Int):jE x≤1048576:=by
 simp only [jE,mR,jL]; repeat' split
 all_goals omega
theorem D4 {x:Int} (h1: -1048576≤x) (h2:x≤1048576):jE x=x:=by
 simp only [jE,mR,jL]; repeat' split
 all_goals omega
def Ce (p:PV):PV:= .agg [.int (jE (aj p 0).toInt), .int (jE (aj p 1).toInt)]
def oK (p:PV):PV:= .agg [.int (jE (aj p 0).toInt), .int (jE (aj p 1).toInt), .int (jE (aj p 2).toInt), .int (jE (aj p 3).toInt)]
@[simp] theorem V1 (ρ):n8 ρ=some [.int (jL (nth ρ 1).toInt (mR (nth ρ 0).toInt (nth ρ 2).toInt))]:=rfl
@[simp] theorem V2 (ρ):rK ρ=some [.int (jL (nth ρ 1).toInt (mR (nth ρ 0).toInt (nth ρ 2).toInt))]:=rfl
@[simp] theorem afS (ρ):u_ ρ=some [.int (jE (nth ρ 0).toInt)]:=rfl
@[simp] theorem E0 (ρ):ep ρ=some [Ce (nth ρ 0)]:=rfl
@[simp] theorem afT (ρ):ql ρ=some [.int (jE (nth ρ 0).toInt)]:=by simp only [ql,ahW]
@[simp] theorem abF (ρ):dN ρ=some [Ce (nth ρ 0)]:=by simp [dN,Ce]
@[simp] theorem adX (ρ):dR ρ=some [.int (jE (nth ρ 0).toInt)]:=rfl
@[simp] theorem afU (ρ):gy ρ=some [.int (jE (nth ρ 0).toInt)]:=rfl
@[simp] theorem afV (ρ):vf ρ=some [Ce (nth ρ 0)]:=rfl
@[simp] theorem agt (ρ):yM ρ=some [Ce (nth ρ 0)]:=rfl
@[simp] theorem adY (ρ):kj ρ=some [oK (nth ρ 0)]:=rfl
@[simp] theorem YW (ρ):jP ρ=some [oK (nth ρ 0)]:=rfl
def gvB (w h:Int):Bool:=bE w 1&&(cI w 32&&(bE h 1&&cI h 32))
@[simp] theorem adb (ρ):o_ ρ=some [.bool (gvB (nth ρ 0).toInt (nth ρ 1).toInt)]:=by simp [o_,gvB]
@[simp] theorem adZ (ρ):rF ρ=some [.bool (gvB (nth ρ 0).toInt (nth ρ 1).toInt)]:=by simp [rF,gvB]
def V3 (w h:Int) (p:PV):Bool:=bE (aj p 0).toInt 0&&(aK (aj p 0).toInt w&&(bE (aj p 1).toInt 0&&aK (aj p 1).toInt h))
@[simp] theorem agu (ρ):yL ρ=some [.bool (V3 (nth ρ 0).toInt (nth ρ 1).toInt (nth ρ 2))]:=by simp [yL,V3]
@[simp] theorem ahX (ρ):B5 ρ=some [.bool (V3 (nth ρ 0).toInt (nth ρ 1).toInt (nth ρ 2))]:=by simp [B5,V3]
def YX (w:Int) (p:PV):Int:=IntKind.i64.wrap ((IntKind.i64.wrap (jE (aj p 1).toInt*jE w))+jE (aj p 0).toInt)
@[simp] theorem ade (ρ):vg ρ=some [.int (YX (nth ρ 0).toInt (nth ρ 1))]:=rfl
@[simp] theorem ad0 (ρ):xE ρ=some [.int (YX (nth ρ 0).toInt (nth ρ 1))]:=rfl
def SH (r p:PV):Bool:=bE (aj p 0).toInt (aj r 0).toInt&&(aK (aj p 0).toInt (IntKind.i64.wrap ((aj r 0).toInt+(aj r 2).toInt))&&(bE (aj p 1).toInt (aj r 1).toInt&&aK (aj p 1).toInt (IntKind.i64.wrap ((aj r 1).toInt+(aj r 3).toInt))))
@[simp] theorem QC (ρ):nD ρ=some [.bool (SH (oK (nth ρ 0)) (Ce (nth ρ 1)))]:=by simp [nD,SH]
@[simp] theorem SI (ρ):l5 ρ=some [.bool (SH (oK (nth ρ 0)) (Ce (nth ρ 1)))]:=by simp [l5,SH]
def ZH (m:PV):Bool:=gvB (aj m 0).toInt (aj m 1).toInt&&(((aj m 2).toList.length:Int)==IntKind.i64.wrap ((aj m 0).toInt*(aj m 1).toInt))
@[simp] theorem Iz (ρ):fS ρ=some [.bool (ZH (nth ρ 0))]:=by simp [fS,ZH]
@[simp] theorem SK (ρ):lX ρ=some [.bool (ZH (nth ρ 0))]:=by simp [lX,ZH]
def D6 (m p:PV):Bool:=ZH m&&V3 (aj m 0).toInt (aj m 1).toInt p
@[simp] theorem IA (ρ):iK ρ=some [.bool (D6 (nth ρ 0) (nth ρ 1))]:=by simp [iK,D6]
@[simp] theorem SL (ρ):pG ρ=some [.bool (D6 (nth ρ 0) (nth ρ 1))]:=by simp [pG,D6]
theorem Y0 {m p:PV} (h:D6 m p=true):bp (YX (aj m 0).toInt p) (aj m 2).toList.length=true:=by
 simp only [D6,ZH,gvB,V3,Bool.and_eq_true,beq_iff_eq,bE,cI,aK,decide_eq_true_eq] at h;obtain ⟨⟨⟨h1,h2,h3,h4⟩,h5⟩,h6,h7,h8,h9⟩:=h;simp only [YX];generalize (aj m 0).toInt=a at*;generalize (aj m 1).toInt=b at*;generalize (aj p 0).toInt=x at*;generalize (aj p 1).toInt=y at*;have e1:y*a≤(b - 1)*a:=Int.mul_le_mul_of_nonneg_right (by omega) (by omega);have e2:0≤y*a:=Int.mul_nonneg (by omega) (by omega);have e3:b*a≤32*32:=Int.le_trans (Int.mul_le_mul_of_nonneg_right h4 (by omega)) (by omega);rw [Int.sub_mul,Int.one_mul] at e1;have e4:a*b=b*a:=Int.mul_comm _ _;rw [D4 (by omega) (by omega),D4 (by omega) (by omega),D4 (by omega) (by omega),wrap_i64 (n:=y*a) (by omega) (by omega),wrap_i64 (by omega) (by omega)];rw [e4,wrap_i64 (by omega) (by omega)] at h5;simp [bp]; omega
def V7 (m p:PV):PV:=cond (D6 m p) (rd (aj m 2).toList (YX (aj m 0).toInt p)) (.agg [.int 0, .int 0, .int 0])
@[simp] theorem QD (ρ):nE ρ=some [V7 (nth ρ 0) (nth ρ 1), .bool (D6 (nth ρ 0) (nth ρ 1))]:=by
 simp only [nE,IA,an,aA,aQ,ak,V7];cases h:D6 (nth ρ 0) (nth ρ 1) with
 |false=>rfl
 |true=>simp [Y0 h]
@[simp] theorem aaJ (ρ):yN ρ=some [V7 (nth ρ 0) (nth ρ 1), .bool (D6 (nth ρ 0) (nth ρ 1))]:=by
 simp only [yN,SL,an,aA,aQ,ak,V7];cases h:D6 (nth ρ 0) (nth ρ 1) with
 |false=>rfl
 |true=>simp [Y0 h]
def Y1 (c k:Int):Bool:=cond (c==1) (k==1||k==5) (cond (c==2) (k==1||(k==5||k==2)) (c==3))
def E1 (m:PV) (c:Int) (p:PV):Bool:=D6 m p&&Y1 c (aj (V7 m p) 0).toInt
theorem NB (ρ):l7 ρ=some [.bool (E1 (nth ρ 0) (nth ρ 1).toInt (nth ρ 2))]:=by
 simp only [l7,aaJ,an,aA,aQ,ak,E1,Y1]
 grind [aq,aA,ak]
theorem D7 (ρ):gu ρ=some [.bool (E1 (nth ρ 0) (nth ρ 1).toInt (nth ρ 2))]:=by
 simp only [gu,QD,an,aA,aQ,ak,E1,Y1,Ai];generalize (nth ρ 1).toInt=c;generalize (aj (V7 (nth ρ 0) (nth ρ 2)) 0).toInt=k;cases D6 (nth ρ 0) (nth ρ 2) with
 |false=>rfl
 |true=>
  by_cases h1:c<1
  ·simp [aK,h1,show ¬ c=1 by omega,show ¬ c=2 by omega,show ¬ c=3 by omega]
  ·by_cases h2:c>3
   ·simp [aK,bq,h1,h2,show ¬ c=1 by omega,show ¬ c=2 by omega,show ¬ c=3 by omega]
   ·by_cases h3:k<0
    ·obtain h|h|h:c=1∨c=2∨c=3:=by omega
     all_goals subst h; simp [aK,bq,bE,show ¬ 0≤k by omega,show ¬ k=1 by omega,show ¬ k=5 by omega,show ¬ k=2 by omega]
    ·by_cases h4:k≥6
     ·obtain h|h|h:c=1∨c=2∨c=3:=by omega
      all_goals subst h; simp [aK,bq,bE,show 0≤k by omega,show ¬ k<6 by omega,show ¬ k=1 by omega,show ¬ k=5 by omega,show ¬ k=2 by omega]
     ·obtain hc|hc|hc:c=1∨c=2∨c=3:=by omega
      all_goals
       obtain hk|hk|hk|hk|hk|hk:k=0∨k=1∨k=2∨k=3∨k=4∨k=5:=by omega
       all_goals subst hc; subst hk; rfl
end
end Go.Sy.V
namespace Go.Sy.V
open PV Go.Sy
noncomputable section
def aZ (b:Nat→Bool) (k i:Nat):Bool:=scan (fun i=>cond (b i) none (some false)) true k i
theorem dS {R:Type} (b:Nat→Bool) (E:Option R) (r:R) (k i:Nat):scan (fun i=>(cond (b i) none (some r)).map some) E k i=cond (aZ b k i) E (some r):=by
 unfold aZ;induction k generalizing i with
 |zero=>rfl
 |succ k ih=>
  simp only [scan];cases b i with
  |true=>exact ih (i+1)
  |false=>rfl
def aP (g:PV):PV:=aJ g 5 3
def xL (g:PV):PV:=aJ g 8 3
end
end Go.Sy.V
namespace Go.Sy.V
open PV Go.Sy
noncomputable section
end
end Go.Sy.V
namespace Go.Sy.V
open PV Go.Sy
noncomputable section
def ND (a b:PV):PV:= .agg [.int (jE (IntKind.i64.wrap (jE (aj a 0).toInt - jE (aj b 0).toInt))), .int (jE (IntKind.i64.wrap (jE (aj a 1).toInt - jE (aj b 1).toInt)))]
def Y4 (a:PV):Int:=IntKind.i64.wrap (IntKind.i64.wrap (jE (aj a 0).toInt*jE (aj a 0).toInt)+IntKind.i64.wrap (jE (aj a 1).toInt*jE (aj a 1).toInt))
theorem UA (a b:PV):tL [a,b]=some [ND a b]:=by
 simp [tL,ND,Ce]
theorem UB (a b:PV):tK [a,b]=some [ND a b]:=by
 have c0:=Ay (aj a 0).toInt; have c0':=Az (aj a 0).toInt;have c1:=Ay (aj a 1).toInt; have c1':=Az (aj a 1).toInt;have d0:=Ay (aj b 0).toInt; have d0':=Az (aj b 0).toInt;have d1:=Ay (aj b 1).toInt; have d1':=Az (aj b 1).toInt;simp only [tK,E0,an,aA,aQ,xD,Ce,cU,toInt_int];simp only [DV,aA,aE];rw [b_];simp only [aA,aQ,bJ,toInt_int,List.length_cons,List.length_nil,show aK 0 ((0+1+1:Nat):Int)=true from rfl,show bp 0 (0+1+1)=true from rfl,cond_true,au,aR];rw [b_];simp only [aA,aQ,bJ,toInt_int,show IntKind.i64.wrap (0+1)=1 from rfl,show aK 1 ((0+1+1:Nat):Int)=true from rfl,show bp 1 (0+1+1)=true from rfl,cond_true,au,aR];rw [b_];simp only [aA,aQ,bJ,toInt_int,show IntKind.i64.wrap (1+1)=2 from rfl,show aK 2 ((0+1+1:Nat):Int)=false from rfl,cond_false,E0,an,dY,VL];simp only [rd,show (0:Int).toNat=0 from rfl,show (1:Int).toNat=1 from rfl,List.getD_cons_zero,List.getD_cons_succ,cU,aA,aQ,toInt_int,Ce,ND];rw [wrap_i64 (n:=0+jE (aj a 0).toInt) (by omega) (by omega),wrap_i64 (n:=0+jE (aj a 1).toInt) (by omega) (by omega),wrap_i64 (n:=0 - jE (aj b 0).toInt) (by omega) (by omega),wrap_i64 (n:=0 - jE (aj b 1).toInt) (by omega) (by omega)];rw [show 0+jE (aj a 0).toInt+(0 - jE (aj b 0).toInt)=jE (aj a 0).toInt - jE (aj b 0).toInt by omega,show 0+jE (aj a 1).toInt+(0 - jE (aj b 1).toInt)=jE (aj a 1).toInt - jE (aj b 1).toInt by omega]
theorem Y5 (a:PV):vc [a]=some [.int (Y4 a)]:=by
 simp [vc,DU,DT,Ce,Y4]
theorem Y6 (a:PV):vk [a]=some [.int (Y4 a)]:=by
 simp [vk,DW,Ce,Y4]
def Wa (x:Int):Int:=jL 0 (mR x 1048576)
def vS (a b:PV):Bool:= !(((aj a 1).toInt==3) != ((aj b 1).toInt==3))&&aK (Y4 (ND (aJ a 3 2) (aJ b 3 2))) (IntKind.i64.wrap (IntKind.i64.wrap (Wa (aj a 2).toInt+Wa (aj b 2).toInt)*IntKind.i64.wrap (Wa (aj a 2).toInt+Wa (aj b 2).toInt)))
theorem J7 (a b:PV):jq [a,b]=some [.bool (vS a b)]:=by
 simp only [jq,lM,V1,an,aA,aQ,bJ,toInt_int,UB,Y5,vS,Wa];cases (((aj a 1).toInt==3) != ((aj b 1).toInt==3))<;>rfl
theorem QI (a b:PV):nK [a,b]=some [.bool (vS a b)]:=by
 simp only [nK,V2,an,aA,aQ,bJ,toInt_int,UA,Y6,vS,Wa];cases (((aj a 1).toInt==3) != ((aj b 1).toInt==3))<;>rfl
def SO (L:List PV):Bool:=aZ (fun i=> !(L.take i).any fun b=>vS (rd L i) b) L.length 0
theorem IG (L:List PV) (p:PV→Bool) (i:Nat) (h:i≤L.length):aZ (fun k=> !p (rd L k)) i 0= !(L.take i).any p:=by
 have key: ∀ k j,j+k=i→aZ (fun k=> !p (rd L k)) k j= !((L.take i).drop j).any p:=by
  intro k;induction k with
  |zero=>intro j e; simp [aZ,scan,List.drop_eq_nil_of_le (show (L.take i).length≤j by simp; omega)]
  |succ k ih=>
   intro j e;have hj:j<(L.take i).length:=by simp; omega
   rw [List.drop_eq_getElem_cons hj];have e1:rd L j=(L.take i)[j]:=by simp [rd,show j<L.length by omega]
   have:=ih (j+1) (by omega);simp only [aZ,scan,List.any_cons, ←e1] at this ⊢;cases p (rd L j) with
   |true=>rfl
   |false=>simpa using this
 simpa using key i 0 (by omega)
@[simp] theorem afW (ρ):ve ρ=some [.int ((nth ρ 0).toInt.fdiv 256)]:=rfl
theorem QJ (x:Int) (h1: -9223372036854775808≤x) (h2:x<18446744073709551616):qm [.int x]=some [.int (x.fdiv 256)]:=by
 have t1:=Int.mul_tdiv_add_tmod x 256;have f1:=Int.mul_fdiv_add_fmod x 256;have f2:0≤x.fmod 256:=Int.fmod_nonneg_of_pos x (by omega);have f3:x.fmod 256<256:=Int.fmod_lt_of_pos x (by omega);have t2:x.tmod 256<256:=Int.tmod_lt_of_pos x (by omega);have t3: -256<x.tmod 256:=by have:=Int.lt_tmod_of_pos x (show (0:Int)<256 by omega); omega
 have t4:0≤x→0≤x.tmod 256:=fun h=>Int.tmod_nonneg 256 h
 have t5:x≤0→x.tmod 256≤0:=fun h=>by
  have:=Int.tmod_nonneg 256 (show 0≤ -x by omega);rw [Int.neg_tmod] at this; omega
 simp only [qm,DX,aA,aQ,toInt_int];simp only [show ((256:Int)==0)=false from rfl,show ((256:Int)== -1)=false from rfl,cond_false,Bool.not_false,au,gN,mh,gO,je,fA,aR,aA,ak,show aK 256 0=false from rfl];rw [wrap_i64 (n:=x.tdiv 256) (by omega) (by omega)];cases hx:(x==(-9223372036854775808))<;>simp only [cond_true,cond_false,toInt_int,an,aA]
 all_goals
  by_cases h0:x.tmod 256=0
  ·simp only [h0,show ((0:Int) != 0)=false from rfl,cond_false,VM]
   simp;omega
  ·by_cases h3:x.tmod 256<0
   ·have hb:(x.tmod 256 != 0)=true:=by simp [h0]
    have hl:(aK (x.tmod 256) 0)=true:=by simp [aK,h3]
    rw [wrap_i64 (by omega) (by omega)];simp only [hb,hl,cond_true,show (true != false)=true from rfl,Option.some.injEq,List.cons.injEq,PV.int.injEq,and_true,toInt_int]; omega
   ·have hb:(x.tmod 256 != 0)=true:=by simp [h0]
    have hl:(aK (x.tmod 256) 0)=false:=by simp [aK]; omega
    simp only [hb,hl,cond_true,cond_false,show (false != false)=false from rfl,Option.some.injEq,List.cons.injEq,PV.int.injEq,and_true,toInt_int]; omega
end
end Go.Sy.V
namespace Go.Sy.V
open PV Go.Sy
noncomputable section
end
end Go.Sy.V
namespace Go.Sy.V
open PV Go.Sy
noncomputable section
theorem LH (L:List PV) (s) (k:Nat) (hk:(aj zU k).toInt=0):(aj (YN L s zU) k).toInt=(aj (uh L s) k).toInt:=by
 unfold YN uh; cases L.find? (mE s) with
 |none=>rw [Option.getD_none,Option.getD_none,hk]; rfl
 |some u=>rfl
def uj (g e:PV):PV:=uh (aj (aP g) 0).toList (aj e 2).toStr
def IJ (g e:PV):Bool:=has (aj (aP g) 0).toList (aj e 2).toStr
def QM (g e:PV):Bool:=IJ g e&& !(aj (uj g e) 1).toBool
def bdV (g e:PV):PV:=cond (QM g e) (.agg [.int (aj e 0).toInt, .int (aj (uj g e) 3).toInt, .int (aj (uj g e) 6).toInt, .int (aj e 3).toInt, .int (aj e 4).toInt, .int 0, .int 0]) (.agg [.int 0, .int 0, .int 0, .int 0, .int 0, .int 0, .int 0])
def vA (g:PV) (L:List PV):List PV:=L.flatMap fun e=>cond (QM g e) [bdV g e] []
theorem Wd {R:Type} (L:List PV) (hn:L.length≤aN) (B:List PV→Option (List PV ⊕ R)) (E:List PV→Option R) (h:PV→List PV) (hk: ∀ x,(h x).length≤1)
  (hB: ∀ i:Nat,i<L.length→rd L i∈L→ ∀ l:List PV,l.length≤i→B [.int i, .list l]=some (.inl [.int (IntKind.i64.wrap (i+1)), .list (l++h (rd L i))])):
  iter (fun ρ=>cond (aK (nth ρ 0).toInt (L.length:Int)) (B ρ) (ay (E ρ))) [.int 0, .list []]=E [.int L.length, .list (L.flatMap h)]:=by
 have hw: ∀ i:Nat,i<L.length→IntKind.i64.wrap ((i:Int)+1)=((i+1:Nat):Int):=by
  intro i hi; rw [wrap_i64 (by omega) (by simp only [aN] at hn; omega)]; simp
 have key: ∀ k i:Nat,k+i=L.length→ ∀ l:List PV,l.length≤i→iter (fun ρ=>cond (aK (nth ρ 0).toInt (L.length:Int)) (B ρ) (ay (E ρ))) [.int i, .list l]=E [.int L.length, .list (l++(L.drop i).flatMap h)]:=by
  intro k;induction k with
  |zero=>
   intro i e l hl;obtain rfl:i=L.length:=by omega
   rw [b_]; simp [aK]; cases E _<;>rfl
  |succ k ih=>
   intro i e l hl;rw [b_];have hi:i<L.length:=by omega
   simp only [aA,toInt_int,e_ hi,cond_true,hB i hi (m_ hi) l hl,aR,hw i hi];have e1:rd L i=L[i]:=by simp [rd,hi]
   have:=hk (rd L i);rw [ih (i+1) (by omega) _ (by simp; omega),List.drop_eq_getElem_cons hi,List.flatMap_cons,e1,List.append_assoc]
 exact key L.length 0 (by omega) [] (by simp)
theorem IK (g:PV) (L:List PV):(vA g L).length≤L.length:=by
 induction L with
 |nil=>simp [vA]
 |cons a l ih=>simp only [vA,List.flatMap_cons,List.length_append,List.length_cons] at *; cases QM g a<;>simp only [cond_true,cond_false,List.length_cons,List.length_nil]<;>omega
def half (x:Int):Int:=IntKind.i64.wrap ((IntKind.i64.wrap (x*256)).tdiv 2)
def J_ (g e:PV):PV:=ND (aJ e 3 2) (.agg [.int (half (aj (uj g e) 4).toInt), .int (half (aj (uj g e) 5).toInt)])
def SU (p:PV):PV:= .agg [.int ((aj p 0).toInt.fdiv 256), .int ((aj p 1).toInt.fdiv 256)]
theorem E4 (p:PV):nB [p]=some [SU p]:=rfl
theorem QN (p:PV) (w:Wf p):qn [p]=some [SU p]:=by
 simp only [qn,aA];rw [QJ _ (w.aj 0).lo (w.aj 0).hi,QJ _ (w.aj 1).lo (w.aj 1).hi]; rfl
def AD (g e:PV):Bool:=IJ g e&&((aj (uj g e) 1).toBool&&(!aK (aj (uj g e) 4).toInt 1&&(!bq (aj (uj g e) 4).toInt 4&&(!aK (aj (uj g e) 5).toInt 1&& !bq (aj (uj g e) 5).toInt 4))))
def wE (g e:PV):PV:=cond (AD g e) (.agg [.int ((aj (J_ g e) 0).toInt.fdiv 256), .int ((aj (J_ g e) 1).toInt.fdiv 256), .int (aj (uj g e) 4).toInt, .int (aj (uj g e) 5).toInt]) (.agg [.int 0, .int 0, .int 0, .int 0])
theorem adf (a b:PV):Wf (ND a b):=by
 have h: ∀ x,Wf (.int (jE x)):=fun x=> .int _ (by have:=Ay x; omega) (by have:=Az x; omega)
 refine .agg _ ?_;intro q hq;simp only [List.mem_cons,List.not_mem_nil,or_false] at hq;rcases hq with rfl|rfl<;>exact h _
end
end Go.Sy.V
namespace Go.Sy.V
open PV Go.Sy
noncomputable section
def xO (g:PV) (L:List PV):List PV:=L.flatMap fun e=>cond (AD g e) [wE g e] []
end
end Go.Sy.V
namespace Go.Sy.V
open PV Go.Sy
noncomputable section
end
end Go.Sy.V
namespace Go.Sy.V
open PV Go.Sy
noncomputable section
end
end Go.Sy.V
namespace Go.Sy.V
open PV Go.Sy
noncomputable section
end
end Go.Sy.V
namespace Go.Sy.V
open PV Go.Sy
noncomputable section
end
end Go.Sy.V
namespace Go.Sy.V
open PV Go.Sy
noncomputable section
end
end Go.Sy.V
namespace Go.Sy.V
open PV Go.Sy
noncomputable section
theorem LJ (a b:Int):eM (.int a) (.int b)=(a==b):=rfl
end
end Go.Sy.V
namespace Go.Sy.V
open PV Go.Sy
noncomputable section
end
end Go.Sy.V
namespace Go.Sy.V
open PV Go.Sy
noncomputable section
end
end Go.Sy.V
namespace Go.Sy.V
open PV Go.Sy
noncomputable section
end
end Go.Sy.V
namespace Go.Sy.V
open PV Go.Sy
noncomputable section
end
end Go.Sy.V
namespace Go.Sy.V
open PV Go.Sy
noncomputable section
end
end Go.Sy.V
set_option maxRecDepth 100000
namespace Go.Sy
noncomputable section
def ah (_ρ:List PV):Option (List PV):=some [.bool true]
def lO (ρ:List PV):Option (List PV):=iter (fun oz=>cond (aK ((nth oz 0).toInt) (((nth ρ 1).toList.length:Int))) (aC (bp (nth oz 0).toInt (nth ρ 1).toList.length) (andThen (nC [nth ρ 0,rd (nth ρ 1).toList (nth oz 0).toInt]) fun r2=>cond ((nth r2 1).toBool) (aC (dO 32 ((nth oz 1).toList.length+([nth r2 0]:List PV).length)) (some (.inl [.int (IntKind.i64.wrap ((nth oz 0).toInt+1)), .list ((nth oz 1).toList++([nth r2 0]:List PV))]))) (some (.inl [.int (IntKind.i64.wrap ((nth oz 0).toInt+1)), .list (nth oz 1).toList])))) (ay (some (nth oz 1).toList))) [.int 0, .list []]
def pB (ρ:List PV):Option (List PV):=andThen (kj [nth ρ 0]) fun r0=>aq (cond (aK ((aj (nth r0 0) 2).toInt) (1)) (some (.inl [.bool true])) (cond (aK ((aj (nth r0 0) 3).toInt) (1)) (some (.inl [.bool true])) (some (.inl [.bool (bq ((IntKind.i64.wrap ((aj (nth r0 0) 2).toInt*(aj (nth r0 0) 3).toInt))) (1024))])))) fun oz=>cond ((nth oz 0).toBool) (some []) (iter (fun eU=>cond (aK ((nth eU 1).toInt) ((aj (nth r0 0) 3).toInt)) (iter (fun qJ=>cond (aK ((nth qJ 1).toInt) ((aj (nth r0 0) 2).toInt)) (aC (dO 16 ((nth qJ 0).toList.length+([.agg [.int (IntKind.i64.wrap ((aj (nth r0 0) 0).toInt+(nth qJ 1).toInt)), .int (IntKind.i64.wrap ((aj (nth r0 0) 1).toInt+(nth eU 1).toInt))]]:List PV).length)) (some (.inl [.list ((nth qJ 0).toList++([.agg [.int (IntKind.i64.wrap ((aj (nth r0 0) 0).toInt+(nth qJ 1).toInt)), .int (IntKind.i64.wrap ((aj (nth r0 0) 1).toInt+(nth eU 1).toInt))]]:List PV)), .int (IntKind.i64.wrap ((nth qJ 1).toInt+1))]))) (ay (some (.inl [.list (nth qJ 0).toList, .int (IntKind.i64.wrap ((nth eU 1).toInt+1))])))) [.list (nth eU 0).toList, .int 0]) (ay (some (nth eU 0).toList))) [.list [], .int 0])
def gb (ρ:List PV):Option (List PV):=aq (andThen (o_ [.int (aj (nth ρ 0) 0).toInt, .int (aj (nth ρ 0) 1).toInt]) fun r1=>cond ((nth r1 0).toBool) (some (.inl [.bool (((aj (nth ρ 0) 2).toList.length:Int)==(IntKind.i64.wrap ((aj (nth ρ 0) 0).toInt*(aj (nth ρ 0) 1).toInt)))])) (some (.inl [.bool false]))) fun iJ=>some [.bool (nth iJ 0).toBool]
def pC (ρ:List PV):Option (List PV):=andThen (gb [nth ρ 0]) fun r0=>cond (!(nth r0 0).toBool) (some []) (andThen (pB [.agg [.int 0, .int 0, .int (aj (nth ρ 0) 0).toInt, .int (aj (nth ρ 0) 1).toInt]]) fun r1=>some r1)
def eJ (ρ:List PV):Option (List PV):=andThen (pC [nth ρ 0]) fun r0=>aC (mkB 1 (r0.length:Int) (r0.length:Int)) (iter (fun AS=>cond (aK ((nth AS 0).toInt) ((r0.length:Int))) (aC (bp (nth AS 0).toInt r0.length) (aq (iter (fun Ij=>cond (aK ((nth Ij 0).toInt) (((nth ρ 1).toList.length:Int))) (aC (bp (nth Ij 0).toInt (nth ρ 1).toList.length) (andThen (nD [rd (nth ρ 1).toList (nth Ij 0).toInt,rd r0 (nth AS 0).toInt]) fun r9=>cond ((nth r9 0).toBool) (ay (some (.inl [.int (nth Ij 0).toInt]))) (some (.inl [.int (IntKind.i64.wrap ((nth Ij 0).toInt+1))])))) (ay (some (.inl [.int (-1)])))) [.int 0]) fun fX=>aC (bp (nth AS 0).toInt (nth AS 1).toList.length) (some (.inl [.int (IntKind.i64.wrap ((nth AS 0).toInt+1)), .list ((nth AS 1).toList.set (nth AS 0).toInt.toNat (.bool (bE ((nth fX 0).toInt) (0))))])))) (ay (some (nth AS 1).toList))) [.int 0, .list (List.replicate (r0.length:Int).toNat (.bool false))])
def aib (ρ:List PV):Option (List PV):=aq (cond (aK ((nth ρ 0).toInt) (1)) (some (.inl [.bool true])) (some (.inl [.bool (aK ((nth ρ 1).toInt) (0))]))) fun b9=>cond ((nth b9 0).toBool) (some [.agg [.int 0, .int 0]]) (aC (!((nth ρ 0).toInt==0)) (aC (!((nth ρ 0).toInt==0)) (some [.agg [.int ((nth ρ 1).toInt.tmod (nth ρ 0).toInt), .int (IntKind.i64.wrap ((nth ρ 1).toInt.tdiv (nth ρ 0).toInt))]])))
def pA (ρ:List PV):Option (List PV):=andThen (lX [nth ρ 0]) fun r0=>cond (!(nth r0 0).toBool) (some []) (aC (mkB 1 (IntKind.i64.wrap ((aj (nth ρ 0) 0).toInt*(aj (nth ρ 0) 1).toInt)) (IntKind.i64.wrap ((aj (nth ρ 0) 0).toInt*(aj (nth ρ 0) 1).toInt))) (iter (fun lN=>cond (aK ((nth lN 0).toInt) (((nth lN 1).toList.length:Int))) (iter (fun u9=>cond (aK ((nth u9 0).toInt) (((nth ρ 1).toList.length:Int))) (aC (bp (nth u9 0).toInt (nth ρ 1).toList.length) (andThen (aib [.int (aj (nth ρ 0) 0).toInt, .int (nth lN 0).toInt]) fun r16=>andThen (l5 [rd (nth ρ 1).toList (nth u9 0).toInt,nth r16 0]) fun ZG=>aq (cond ((nth ZG 0).toBool) (aC (bp (nth lN 0).toInt (nth u9 1).toList.length) (some (.inl [.list ((nth u9 1).toList.set (nth lN 0).toInt.toNat (.bool true))]))) (some (.inl [.list (nth u9 1).toList]))) fun Ii=>some (.inl [.int (IntKind.i64.wrap ((nth u9 0).toInt+1)), .list (nth Ii 0).toList]))) (ay (some (.inl [.int (IntKind.i64.wrap ((nth lN 0).toInt+1)), .list (nth u9 1).toList])))) [.int 0, .list (nth lN 1).toList]) (ay (some (nth lN 1).toList))) [.int 0, .list (List.replicate (IntKind.i64.wrap ((aj (nth ρ 0) 0).toInt*(aj (nth ρ 0) 1).toInt)).toNat (.bool false))]))
def so (ρ:List PV):Option (List PV):=iter (fun eU=>cond (aK ((nth eU 1).toInt) (((nth ρ 1).toList.length:Int))) (aC (bp (nth eU 1).toInt (nth ρ 1).toList.length) (andThen (qo [nth ρ 0,rd (nth ρ 1).toList (nth eU 1).toInt]) fun r5=>aq (cond ((nth r5 1).toBool) (aC (dO 32 ((nth eU 0).toList.length+([nth r5 0]:List PV).length)) (some (.inl [.list ((nth eU 0).toList++([nth r5 0]:List PV))]))) (some (.inl [.list (nth eU 0).toList]))) fun oZ=>some (.inl [.list (nth oZ 0).toList, .int (IntKind.i64.wrap ((nth eU 1).toInt+1))]))) (ay (some (nth eU 0).toList))) [.list [], .int 0]
def zW (ρ:List PV):Option (List PV):=andThen (pz [aJ (nth ρ 0) 5 3, .list (aj (nth ρ 0) 12).toList]) fun r0=>andThen (jz [.list r0]) fun r1=>cond (!(nth r1 0).toBool) (some [.bool false]) (andThen (so [aJ (nth ρ 0) 5 3, .list (aj (nth ρ 0) 12).toList]) fun r4=>andThen (pA [aJ (nth ρ 0) 8 3, .list r4]) fun r5=>iter (fun Sx=>cond (aK ((nth Sx 0).toInt) ((r0.length:Int))) (aq (aC (bp (nth Sx 0).toInt r0.length) (andThen (qm [.int (aj (rd r0 (nth Sx 0).toInt) 3).toInt]) fun r26=>aC (bp (nth Sx 0).toInt r0.length) (andThen (qm [.int (aj (rd r0 (nth Sx 0).toInt) 4).toInt]) fun r27=>aC (bp (nth Sx 0).toInt r0.length) (cond ((aj (rd r0 (nth Sx 0).toInt) 1).toInt==3) (some (.inl [])) (aC (bp (nth Sx 0).toInt r0.length) (andThen (l7 [aJ (nth ρ 0) 8 3, .int (aj (rd r0 (nth Sx 0).toInt) 1).toInt, .agg [.int (nth r26 0).toInt, .int (nth r27 0).toInt]]) fun r29=>cond (!(nth r29 0).toBool) (ay (ay (some [.bool false]))) (andThen (xE [.int (aj (nth ρ 0) 8).toInt, .agg [.int (nth r26 0).toInt, .int (nth r27 0).toInt]]) fun r30=>aq (cond (aK ((nth r30 0).toInt) ((r5.length:Int))) (aC (bp (nth r30 0).toInt r5.length) (some (.inl [.bool (rd r5 (nth r30 0).toInt).toBool]))) (some (.inl [.bool false]))) fun aeK=>cond ((nth aeK 0).toBool) (ay (ay (some [.bool false]))) (some (.inl []))))))))) fun ahE=>some (.inl [.int (IntKind.i64.wrap ((nth Sx 0).toInt+1))])) (ay (some [.bool true]))) [.int 0])
def vh (ρ:List PV):Option (List PV):=andThen (jt [aJ (nth ρ 0) 5 3, .list (aj (nth ρ 0) 12).toList]) fun r0=>andThen (gV [.list r0]) fun r1=>cond (!(nth r1 0).toBool) (some [.bool false]) (andThen (lO [aJ (nth ρ 0) 5 3, .list (aj (nth ρ 0) 12).toList]) fun r4=>andThen (eJ [aJ (nth ρ 0) 8 3, .list r4]) fun r5=>iter (fun Nq=>cond (aK ((nth Nq 0).toInt) ((r0.length:Int))) (aq (aC (bp (nth Nq 0).toInt r0.length) (andThen (ve [.int (aj (rd r0 (nth Nq 0).toInt) 3).toInt]) fun r24=>andThen (ve [.int (aj (rd r0 (nth Nq 0).toInt) 4).toInt]) fun r25=>cond ((aj (rd r0 (nth Nq 0).toInt) 1).toInt==3) (some (.inl [])) (andThen (gu [aJ (nth ρ 0) 8 3, .int (aj (rd r0 (nth Nq 0).toInt) 1).toInt, .agg [.int (nth r24 0).toInt, .int (nth r25 0).toInt]]) fun r26=>cond (!(nth r26 0).toBool) (ay (ay (some [.bool false]))) (andThen (vg [.int (aj (nth ρ 0) 8).toInt, .agg [.int (nth r24 0).toInt, .int (nth r25 0).toInt]]) fun r27=>aq (cond (bE ((nth r27 0).toInt) (0)) (cond (aK ((nth r27 0).toInt) ((r5.length:Int))) (aC (bp (nth r27 0).toInt r5.length) (some (.inl [.bool (rd r5 (nth r27 0).toInt).toBool]))) (some (.inl [.bool false]))) (some (.inl [.bool false]))) fun afN=>cond ((nth afN 0).toBool) (ay (ay (some [.bool false]))) (some (.inl [])))))) fun YB=>some (.inl [.int (IntKind.i64.wrap ((nth Nq 0).toInt+1))])) (ay (some [.bool true]))) [.int 0])
def cX (ρ:List PV):Option (List PV):=aq (andThen (vh [nth ρ 0]) fun r6=>andThen (zW [nth ρ 0]) fun r7=>cond ((nth r6 0).toBool==(nth r7 0).toBool) (andThen (ah []) fun r8=>some (.inl [.bool (nth r8 0).toBool])) (some (.inl [.bool false]))) fun ug=>some [.bool (nth ug 0).toBool]
end
end Go.Sy
namespace Go.Sy.V
open PV Go.Sy
noncomputable section
def Cln (r:PV):Prop:= ∀ u∈(aj r 0).toList,dO 16 (aj u 16).toList.length=true∧dO 16 (aj u 17).toList.length=true∧dO 16 (aj u 18).toList.length=true
theorem zP {b n:Nat} (hb:b≤100) (hn:n≤1099511627777):dO b n=true:=by
 have:n*b≤1099511627777*100:=Nat.mul_le_mul hn hb;simp only [dO,Bool.and_eq_true,Nat.ble_eq];omega
theorem aic (r:PV) (s:ByteArray) (hu:(aj r 0).toList.length≤aN) (hc:Cln r):dL [r, .str s]=some [Ca (uh (aj r 0).toList s), .bool (has (aj r 0).toList s)]:=by
 simp only [dL,aA,aQ,aS];rw [fV _ hu _ _ _ (fun u=> .inl [.bool true, .str (aj u 0).toStr, .bool (aj u 1).toBool, .bool (aj u 2).toBool, .int (aj u 3).toInt, .int (aj u 4).toInt, .int (aj u 5).toInt, .int (aj u 6).toInt, .int (aj u 7).toInt, .int (aj u 8).toInt, .int (aj u 9).toInt, .int (aj u 10).toInt, .int (aj u 11).toInt, .str (aj u 12).toStr, .int (aj u 13).toInt, .int (aj u 14).toInt, .int (aj u 15).toInt, .list (aj u 16).toList, .list (aj u 17).toList, .list (aj u 18).toList]) (mE s)]
 ·have hm:=Gw (L:=(aj r 0).toList) (s:=s) (P:=fun u=>dO 16 (aj u 16).toList.length=true∧dO 16 (aj u 17).toList.length=true∧dO 16 (aj u 18).toList.length=true) (by decide) hc
  revert hm
  unfold uh has;cases e:(aj r 0).toList.find? (mE s) with
  |none=>
   intro _;simp only [aR,aA,aQ,bJ,ga,kW,mH,oh,tM,tN,tO,mW,mj,mX,mY,mZ,m5,m6,m7,m8,m9,aS,ak,toInt_int,aE];rw [Lx _ (bh (by omega) (by simp)) (bh (by omega) (by simp)) (bh (by omega) (by simp))];rfl
  |some u=>
   intro hm;simp only [Option.getD_some] at hm;simp only [aR,aA,aQ,bJ,ga,kW,mH,oh,tM,tN,tO,mW,mj,mX,mY,mZ,m5,m6,m7,m8,m9,aS,ak,toInt_int,aE];rw [Lx _ (by simpa using hm.1) (by simpa using hm.2.1) (by simpa using hm.2.2)];simp [Ca]
 ·intro i hi hm
  simp only [aA,toInt_int,aB hi,au,aH,an,aS,mE,aA,aQ,bJ,ga,kW,mH,oh,tM,tN,tO,mW,mj,mX,mY,mZ,m5,m6,m7,m8,m9,aS,ak,toInt_int,aE,dY];cases aM _ _<;>rfl
theorem aix (r:PV) (s:ByteArray) (hu:(aj r 0).toList.length≤aN):dG [r, .str s]=some [YN (aj r 0).toList s zU, .bool (has (aj r 0).toList s)]:=by
 simp only [dG,aA,aQ,aS];rw [fV _ hu _ _ _ (fun u=>[u, .bool true]) (mE s)]
 ·unfold YN has zU
  cases e:(aj r 0).toList.find? (mE s) with
  |none=>rfl
  |some u=>rfl
 ·intro i hi hm
  simp only [aB hi,au,an,mE,aA,aQ,bJ,ga,kW,mH,oh,tM,tN,tO,mW,mj,mX,mY,mZ,m5,m6,m7,m8,m9,aS,ak,toInt_int,aE,dY];cases aM _ _<;>rfl
theorem aiE (g e:PV) (hu:(aj (aP g) 0).toList.length≤aN) (hc:Cln (aP g)):i6 [aP g,e]=some [bdV g e, .bool (QM g e)]:=by
 simp only [i6,aA,aQ];rw [aic _ _ hu hc];simp only [an,aA,aQ,ga,oh,ak,toInt_int,Ca,cU,bdV,QM,IJ,uj];cases has _ _<;>cases (aj (uh _ _) 1).toBool<;>rfl
theorem aiF (g e:PV) (hu:(aj (aP g) 0).toList.length≤aN) (hc:Cln (aP g)):nC [aP g,e]=some [wE g e, .bool (AD g e)]:=by
 simp only [nC,aA,aQ];rw [aic _ _ hu hc];simp only [an,aA,aQ,kW,mH,ak,toInt_int,Ca,cU,oE,show ((2:Int)==0)=false from rfl,Bool.not_false,au,UB,E4,SU,wE,AD,IJ,uj,J_,half];cases has _ _<;>cases (aj (uh _ _) 1).toBool<;>cases aK _ 1<;>cases bq _ 4<;>cases aK _ 1<;>cases bq _ 4<;>rfl
theorem ai9 (g e:PV) (hu:(aj (aP g) 0).toList.length≤aN):vl [aP g,e]=some [bdV g e, .bool (QM g e)]:=by
 simp only [vl,aA,aQ];rw [aix _ _ hu];simp only [an,aA,aQ,ga,oh,ak,toInt_int,Iu,LH _ _ 3 rfl,LH _ _ 6 rfl,bdV,QM,IJ,uj];cases has _ _<;>cases (aj (uh _ _) 1).toBool<;>rfl
theorem ai_ (g e:PV) (hu:(aj (aP g) 0).toList.length≤aN):qo [aP g,e]=some [wE g e, .bool (AD g e)]:=by
 simp only [qo,aA,aQ];rw [aix _ _ hu];simp only [an,aA,aQ,kW,mH,ak,toInt_int,Iu,LH _ _ 4 rfl,LH _ _ 5 rfl,show ((2:Int)==0)=false from rfl,Bool.not_false,au,UA,QN _ (adf _ _),SU,wE,AD,IJ,uj,J_,half];cases has _ _<;>cases (aj (uh _ _) 1).toBool<;>cases aK _ 1<;>cases bq _ 4<;>cases aK _ 1<;>cases bq _ 4<;>rfl
theorem air (g:PV) (L:List PV) (hu:(aj (aP g) 0).toList.length≤aN) (hc:Cln (aP g)) (hL:L.length≤1099511627776):jt [aP g, .list L]=some (vA g L):=by
 simp only [jt,aA,aQ,aE];rw [Wd L (by simp only [aN]; omega) _ _ (fun e=>cond (QM g e) [bdV g e] []) (fun x=>by cases QM g x<;>simp)]
 ·simp [vA]
 ·intro i hi hm l Oc
  simp only [aA,aQ,toInt_int,aE,aB hi,au,aiE g _ hu hc,an,ak];rw [zP (by omega) (by simp; omega)];cases QM g _<;>simp
theorem aiS (g:PV) (L:List PV) (hu:(aj (aP g) 0).toList.length≤aN) (hL:L.length≤1099511627776):pz [aP g, .list L]=some (vA g L):=by
 simp only [pz,aA,aQ,aE];rw [tP L (by simp only [aN]; omega) _ _ (fun a e=> .list (a.toList++cond (QM g e) [bdV g e] [])) (fun i a=> ∃ l:List PV,a= .list l∧l.length≤i) (fun i hi a ⟨l,e,Oc⟩=>⟨_,rfl,by subst e; cases QM g (rd L i)<;>simp<;>omega⟩)]
 ·rw [B7]; simp [vA]
 ·rintro i hi hm a ⟨l,rfl,Oc⟩
  simp only [aA,aQ,toInt_int,aE,aB hi,au,ai9 g _ hu,an,ak];rw [zP (by omega) (by simp; omega)];cases QM g _<;>simp
 ·exact ⟨[],rfl,by simp⟩
theorem aid (L:List PV) (h:L.length≤aN):gV [.list L]=some [.bool (SO L)]:=by
 simp only [gV,aA,aE];rw [bO _ h [] _ _ (fun i=>cond (!(L.take i).any fun b=>vS (rd L i) b) none (some [.bool false]))]
 ·rw [dS]; unfold SO; cases aZ _ _ _<;>rfl
 ·intro i hi
  have hs:sub L 0 (i:Int)=L.take i:=by simp [sub]
  simp only [aA,toInt_int,aB hi,au,hs,Int.toNat_natCast,aB (show i<L.length+1 by omega),show bp 0 (i+1)=true from aB (i:=0) (by omega),Bool.and_self];rw [dx (L.take i) (by simp; omega) _ (fun b=>vS (rd L i) b)]
  ·simp only [aA,toInt_int,show bE 0 0=true from rfl,show bE (-1) 0=false from rfl,cond_true,cond_false]
   cases (L.take i).any _<;>rfl
  ·intro j hj hm
   simp only [aA,toInt_int,aB hj,au,J7,an,ak];cases vS _ _<;>rfl
  ·intro j; simp [bE]
theorem ais (L:List PV) (h:L.length≤aN):jz [.list L]=some [.bool (SO L)]:=by
 simp only [jz,aA,aE];rw [bO _ h [] _ _ (fun i=>cond (!(L.take i).any fun b=>vS (rd L i) b) none (some [.bool false]))]
 ·rw [dS]; unfold SO; cases aZ _ _ _<;>rfl
 ·intro i hi
  simp only [aA,toInt_int];rw [bO i (by omega) [] _ _ (fun k=>cond (!vS (rd L i) (rd L k)) none (some (.inr [.bool false])))]
  ·rw [dS,IG L (fun b=>vS (rd L i) b) i (by omega)]
   cases (L.take i).any _<;>rfl
  ·intro j hj
   simp only [aA,toInt_int,aB hi,aB (show j<L.length by omega),au,QI,an,ak];cases vS _ _<;>rfl
end
end Go.Sy.V
namespace Go.Sy.V
open PV Go.Sy
noncomputable section
theorem Hx {R:Type} (f:List PV→Option (List PV ⊕ R)) (n:Nat) (St:Nat→List PV) (E:Option R)
  (ρ:List PV) (h0:ρ=St 0) (hB: ∀ k,k<n→f (St k)=some (.inl (St (k+1)))) (hE:f (St n)=ay E):iter f ρ=E:=by
 subst h0;have key: ∀ k i,i+k=n→iter f (St i)=E:=by
  intro k;induction k with
  |zero=>
   intro i e;obtain rfl:i=n:=by omega
   rw [b_,hE]; cases E<;>rfl
  |succ k ih=>
   intro i e;rw [b_,hB i (by omega)];simp only [aR];exact ih (i+1) (by omega)
 exact key n 0 (by omega)
theorem aiT (g:PV) (L:List PV) (hu:(aj (aP g) 0).toList.length≤aN) (hc:Cln (aP g)) (hL:L.length≤1099511627776):lO [aP g, .list L]=some (L.flatMap fun e=>cond (AD g e) [wE g e] []):=by
 simp only [lO,aA,aQ,aE];rw [Wd L (by simp only [aN]; omega) _ _ (fun e=>cond (AD g e) [wE g e] []) (fun x=>by cases AD g x<;>simp)]
 ·simp
 ·intro i hi hm l Oc
  simp only [aA,aQ,toInt_int,aE,aB hi,au,aiF g _ hu hc,an,ak];rw [zP (by omega) (by simp; omega)];cases AD g _<;>simp
theorem ajo (g:PV) (L:List PV) (hu:(aj (aP g) 0).toList.length≤aN) (hL:L.length≤1099511627776):so [aP g, .list L]=some (L.flatMap fun e=>cond (AD g e) [wE g e] []):=by
 simp only [so,aA,aQ,aE];rw [tP L (by simp only [aN]; omega) _ _ (fun a e=> .list (a.toList++cond (AD g e) [wE g e] [])) (fun i a=> ∃ l:List PV,a= .list l∧l.length≤i) (fun i hi a ⟨l,e,Oc⟩=>⟨_,rfl,by subst e; cases AD g (rd L i)<;>simp<;>omega⟩)]
 ·rw [B7]; simp
 ·rintro i hi hm a ⟨l,rfl,Oc⟩
  simp only [aA,aQ,toInt_int,aE,aB hi,au,ai_ g _ hu,an,ak];rw [zP (by omega) (by simp; omega)];cases AD g _<;>simp
 ·exact ⟨[],rfl,by simp⟩
def aie (x y:Nat):PV:= .agg [.int x, .int y]
def aeb (W y:Nat):List PV:=(List.range W).map fun x=>aie x y
def bC (W H:Nat):List PV:=(List.range H).flatMap (aeb W)
theorem HG (W H:Nat):bC W (H+1)=bC W H++aeb W H:=by simp [bC,List.range_succ]
theorem rm (W H:Nat):(bC W H).length=W*H:=by
 induction H with
 |zero=>simp [bC]
 |succ H ih=>rw [HG,List.length_append,ih,Nat.mul_succ]; simp [aeb]
theorem aja (W H i:Nat) (h:i<W*H):(bC W H)[i]? =some (aie (i%W) (i/W)):=by
 induction H with
 |zero=>simp at h
 |succ H ih=>
  rw [HG];by_cases h1:i<W*H
  ·rw [List.getElem?_append_left (by rw [rm]; exact h1),ih h1]
  ·rw [List.getElem?_append_right (by rw [rm]; omega),rm]
   rw [Nat.mul_succ] at h;have hx:i - W*H<W:=by omega
   have e1:i=W*H+(i - W*H):=by omega
   have e2:i%W=i - W*H:=by rw [e1,Nat.mul_add_mod]; simp [Nat.mod_eq_of_lt hx]
   have e3:i/W=H:=by rw [e1,Nat.mul_add_div (by omega)]; simp [Nat.div_eq_of_lt hx]
   rw [e2,e3];simp [aeb,hx]
theorem ajb (W H:Nat) (h1:1≤W) (h2:W≤32) (h3:1≤H) (h4:H≤32):pB [.agg [.int 0, .int 0, .int W, .int H]]=some (bC W H):=by
 have hWH:(W:Int)*H≤1024:=by
  have:W*H≤32*32:=Nat.mul_le_mul h2 h4;have:((W*H:Nat):Int)≤1024:=by omega
  simpa using this
 have hn:(0:Int)≤(W:Int)*H:=Int.mul_nonneg (by omega) (by omega);simp only [pB,adY,an,aA,oK,cU,bJ,ga,aQ,toInt_int];rw [D4 (x:=0) (by omega) (by omega),D4 (x:=(W:Int)) (by omega) (by omega),D4 (x:=(H:Int)) (by omega) (by omega),wrap_i64 (n:=(W:Int)*H) (by omega) (by omega)];have a1:aK (W:Int) 1=false:=by simp [aK]; omega
 have a2:aK (H:Int) 1=false:=by simp [aK]; omega
 have a3:bq ((W:Int)*H) 1024=false:=by simp [bq]; omega
 simp only [a1,a2,a3,cond_false,aR,aA,ak];refine Hx _ H (fun y=>[.list (bC W y), .int y]) _ _ (by simp [bC]) (fun y hy=> ?_) ?_
 ·simp only [aA,aQ,toInt_int,aE,e_ hy,cond_true]
  refine Hx _ W (fun x=>[.list (bC W y++(List.range x).map fun x=>aie x y), .int x]) _ _ (by simp) (fun x hx=> ?_) ?_
  ·have hl:(bC W y).length≤1024:=by
    rw [rm];exact Nat.le_trans (Nat.mul_le_mul h2 (show y≤32 by omega)) (by omega)
   simp only [aA,aQ,toInt_int,aE,e_ hx,cond_true];rw [zP (by omega) (by simp; omega),wrap_i64 (n:=0+(x:Int)) (by omega) (by omega),wrap_i64 (n:=0+(y:Int)) (by omega) (by omega),wrap_i64 (n:=(x:Int)+1) (by omega) (by omega)];simp [aie,List.range_succ]
  ·simp only [aA,aQ,toInt_int,aE,iQ (Nat.lt_irrefl _),cond_false]
   rw [wrap_i64 (n:=(y:Int)+1) (by omega) (by omega),HG];rfl
 ·simp only [aA,aQ,toInt_int,aE,iQ (Nat.lt_irrefl _),cond_false]
def ajH (R:List PV) (p:PV):Bool:=R.any fun r=>SH (oK r) (Ce p)
def ajI (R:List PV) (W i:Nat):PV:= .bool (ajH R (aie (i%W) (i/W)))
def aij (R:List PV) (W n:Nat):List PV:=(List.range n).map (ajI R W)
def P1 (R:List PV) (W n i:Nat):List PV:=aij R W i++List.replicate (n - i) (.bool false)
theorem aif (R:List PV) (W n:Nat):(aij R W n).length=n:=by simp [aij]
theorem aiy (R:List PV) (W n i:Nat) (h:i≤n):(P1 R W n i).length=n:=by simp [P1,aij]; omega
theorem ajv (R:List PV) (W n i:Nat) (h:i<n):(P1 R W n i).set i (ajI R W i)=P1 R W n (i+1):=by
 have e:n - i=(n - (i+1))+1:=by omega
 unfold P1;rw [e,List.replicate_succ,List.set_append_right _ _ (by rw [aif]; exact Nat.le_refl _),aif,Nat.sub_self,List.set_cons_zero];simp [aij,List.range_succ]
theorem aiX (R:List PV) (W n:Nat):P1 R W n n=aij R W n:=by simp [P1]
theorem aiG (ρ):gb ρ=some [.bool (ZH (nth ρ 0))]:=by simp [gb,ZH]
theorem sides {m:PV} (h:ZH m=true): ∃ W H:Nat,(aj m 0).toInt=W∧(aj m 1).toInt=H∧1≤W∧W≤32∧1≤H∧H≤32∧(aj m 2).toList.length=W*H:=by
 simp only [ZH,gvB,Bool.and_eq_true,beq_iff_eq,bE,cI,decide_eq_true_eq] at h;obtain ⟨⟨h1,h2,h3,h4⟩,h5⟩:=h;refine ⟨(aj m 0).toInt.toNat,(aj m 1).toInt.toNat,by omega,by omega,by omega,by omega,by omega,by omega, ?_⟩;obtain ⟨W,hW⟩: ∃ W:Nat,(aj m 0).toInt=W:=⟨(aj m 0).toInt.toNat,by omega⟩;obtain ⟨H,hH⟩: ∃ H:Nat,(aj m 1).toInt=H:=⟨(aj m 1).toInt.toNat,by omega⟩;rw [hW,hH] at h5 ⊢;have hn:W*H≤32*32:=Nat.mul_le_mul (by omega) (by omega);have e:((W:Int)*H)=((W*H:Nat):Int):=by simp
 rw [e,wrap_i64 (by omega) (by omega)] at h5;simp only [Int.toNat_natCast];omega
theorem ajc (m:PV):pC [m]=some (cond (ZH m) (bC (aj m 0).toInt.toNat (aj m 1).toInt.toNat) []):=by
 simp only [pC,aiG,an,aA,ak];cases h:ZH m with
 |false=>rfl
 |true=>
  obtain ⟨W,H,e1,e2,h1,h2,h3,h4,_⟩:=sides h;rw [e1,e2,ajb W H h1 h2 h3 h4];simp
def blocked (m:PV) (R:List PV):List PV:=cond (ZH m) (aij R (aj m 0).toInt.toNat (aj m 2).toList.length) []
theorem ajk {n:Nat} (h:n≤1024):mkB 1 (n:Int) (n:Int)=true:=by
 simp [mkB]; omega
theorem aiz (m:PV) (R:List PV) (hR:R.length≤aN):eJ [m, .list R]=some (blocked m R):=by
 simp only [eJ,aA,aQ,aE,ajc,an,blocked];cases h:ZH m with
 |false=>
  simp only [cond_false];rw [show mkB 1 ((([]:List PV).length:Nat):Int) ((([]:List PV).length:Nat):Int)=true from rfl,au,b_];rfl
 |true=>
  obtain ⟨W,H,e1,e2,h1,h2,h3,h4,h5⟩:=sides h;have hn:W*H≤32*32:=Nat.mul_le_mul h2 h4;simp only [cond_true,e1,e2,Int.toNat_natCast,h5];rw [rm,ajk (by omega),au, ←aiX];refine Hx _ (W*H) (fun i=>[.int i, .list (P1 R W (W*H) i)]) _ _ (by simp [P1,aij]) (fun i hi=> ?_) ?_
  ·have hrd:rd (bC W H) (i:Int)=aie (i%W) (i/W):=by simp [rd,List.getD,aja W H i hi]
   simp only [aA,aQ,toInt_int,aE,e_ hi,cond_true,aB hi,au,hrd];rw [dx R hR _ (fun r=>SH (oK r) (Ce (aie (i%W) (i/W))))]
   ·rw [wrap_i64 (n:=(i:Int)+1) (by omega) (by omega)]
    simp only [aA,toInt_int,show bE 0 0=true from rfl,show bE (-1) 0=false from rfl,cond_true,cond_false,aiy R W (W*H) i (by omega),aB hi,au,Int.toNat_natCast];have:=ajv R W (W*H) i hi;unfold ajI ajH at this;cases hq:R.any (fun r=>SH (oK r) (Ce (aie (i%W) (i/W))))<;>rw [hq] at this<;>simp [this,bE]
   ·intro j hj hm
    simp only [aA,toInt_int,aB hj,au,QC,an,aQ,ak];cases SH _ _<;>rfl
   ·intro j; simp [bE]
  ·simp only [aA,aQ,toInt_int,aE,iQ (Nat.lt_irrefl _),cond_false]
end
end Go.Sy.V
namespace Go.Sy.V
open PV Go.Sy
noncomputable section
theorem ajQ (W i:Nat) (h:1≤W) (h2:i≤1048576):aib [.int W, .int i]=some [aie (i%W) (i/W)]:=by
 have a1:aK (W:Int) 1=false:=by simp [aK]; omega
 have a2:aK (i:Int) 0=false:=by simp [aK]
 have a3:((W:Int)==0)=false:=by simp; omega
 have e1:(i:Int).tmod W=((i%W:Nat):Int):=rfl;have e2:(i:Int).tdiv W=((i/W:Nat):Int):=rfl;have e3:i/W≤i:=Nat.div_le_self _ _;simp only [aib,aA,aQ,toInt_int,a1,a2,cond_false,aR,ak,a3,Bool.not_false,au,e1,e2];generalize i/W=q at*;rw [wrap_i64 (by omega) (by omega)]; rfl
def aiA (R:List PV) (W n i k:Nat):List PV:=aij R W i++ .bool (ajH (R.take k) (aie (i%W) (i/W)))::List.replicate (n - (i+1)) (.bool false)
theorem ajp (R:List PV) (W n i:Nat) (h:i<n):aiA R W n i 0=P1 R W n i:=by
 have e:n - i=(n - (i+1))+1:=by omega
 simp only [aiA,P1,e,List.replicate_succ,List.take_zero]; rfl
theorem ajw (R:List PV) (W n i:Nat):aiA R W n i R.length=P1 R W n (i+1):=by
 simp [aiA,P1,aij,List.range_succ,ajI]
theorem ajx (R:List PV) (W n i k:Nat) (h:i<n):(aiA R W n i k).length=n:=by simp [aiA,aij]; omega
theorem aiH (R:List PV) (k:Nat) (h:k<R.length) (p:PV→Bool):(R.take (k+1)).any p=((R.take k).any p||p (rd R k)):=by
 have e:rd R (k:Int)=R[k]:=by simp [rd,h]
 rw [List.take_succ_eq_append_getElem h,List.any_append,e]; simp
theorem ajq (R:List PV) (W n i k:Nat) (hi:i<n) (hk:k<R.length):cond (SH (oK (rd R k)) (Ce (aie (i%W) (i/W)))) ((aiA R W n i k).set i (.bool true)) (aiA R W n i k)=aiA R W n i (k+1):=by
 have h:=aiH R k hk (fun r=>SH (oK r) (Ce (aie (i%W) (i/W))));unfold aiA ajH;rw [h];cases hq:SH (oK (rd R k)) (Ce (aie (i%W) (i/W))) with
 |false=>simp
 |true=>
  simp only [cond_true,Bool.or_true];rw [List.set_append_right _ _ (by rw [aif]; exact Nat.le_refl _),aif,Nat.sub_self,List.set_cons_zero]
theorem aiY (m:PV) (R:List PV) (hR:R.length≤aN):pA [m, .list R]=some (blocked m R):=by
 simp only [pA,aA,aQ,aE,SK,an,ak,blocked];cases h:ZH m with
 |false=>rfl
 |true=>
  obtain ⟨W,H,e1,e2,h1,h2,h3,h4,h5⟩:=sides h;have hn:W*H≤32*32:=Nat.mul_le_mul h2 h4;have e:((W:Int)*H)=((W*H:Nat):Int):=by simp
  have hm1:R.length≤9223372036854775807:=hR;simp only [Bool.not_true,cond_false,cond_true,e1,e2,e,Int.toNat_natCast,h5];rw [wrap_i64 (n:=((W*H:Nat):Int)) (by omega) (by omega),ajk (by omega),au, ←aiX];refine Hx _ (W*H) (fun i=>[.int i, .list (P1 R W (W*H) i)]) _ _ (by simp only [Int.toNat_natCast]; simp [P1,aij]) (fun i hi=> ?_) ?_
  ·simp only [aA,aQ,toInt_int,aE,aiy R W (W*H) i (by omega),e_ hi,cond_true]
   refine Hx _ R.length (fun k=>[.int k, .list (aiA R W (W*H) i k)]) _ _ (by simp [ajp R W (W*H) i hi]) (fun k hk=> ?_) ?_
   ·simp only [aA,aQ,toInt_int,aE,e_ hk,cond_true,aB hk,au]
    rw [ajQ W i h1 (by omega)];simp only [an,aA,aQ,SI,ak,ajx R W (W*H) i k hi,aB hi,au,Int.toNat_natCast];have hs:=ajq R W (W*H) i k hi hk;rw [wrap_i64 (n:=(k:Int)+1) (by omega) (by omega), ←hs];cases SH (oK (rd R k)) (Ce (aie (i%W) (i/W)))<;>simp [aA]
   ·simp only [aA,aQ,toInt_int,aE,iQ (Nat.lt_irrefl _),cond_false,ajw]
    rw [wrap_i64 (n:=(i:Int)+1) (by omega) (by omega)]; rfl
  ·simp only [aA,aQ,toInt_int,aE,aiy R W (W*H) (W*H) (Nat.le_refl _),iQ (Nat.lt_irrefl _),cond_false]
end
end Go.Sy.V
namespace Go.Sy.V
open PV Go.Sy
noncomputable section
structure Gen (g:PV):Prop where
 w:Wf g
 n:(aj g 12).toList.length≤1099511627776
 c:Cln (aP g)
def ain (b:PV):PV:= .agg [.int ((aj b 3).toInt.fdiv 256), .int ((aj b 4).toInt.fdiv 256)]
def aiZ (g b:PV):Bool:=((aj b 1).toInt==3)||(E1 (xL g) (aj b 1).toInt (ain b)&& !(rd (blocked (xL g) (xO g (aj g 12).toList)) (YX (aj g 8).toInt (ain b))).toBool)
def ai0 (g:PV):Bool:=SO (vA g (aj g 12).toList)&&(vA g (aj g 12).toList).all (aiZ g)
theorem ai1 {m:PV} {R:List PV} (h:ZH m=true):(blocked m R).length=(aj m 2).toList.length:=by
 simp [blocked,h,aij]
theorem ajl {m p:PV} {c:Int} {R:List PV} (h:E1 m c p=true):bp (YX (aj m 0).toInt p) (blocked m R).length=true:=by
 simp only [E1,Bool.and_eq_true] at h;have hf:ZH m=true:=by have:=h.1; simp only [D6,Bool.and_eq_true] at this; exact this.1
 rw [ai1 hf];exact Y0 h.1
theorem ajN {i:Int} {n:Nat} (h:bp i n=true):bE i 0=true∧aK i (n:Int)=true:=by
 simp only [bp,Bool.and_eq_true,decide_eq_true_eq] at h;simp [bE,aK]; omega
theorem aj2 (g:PV) (L:List PV):(xO g L).length≤L.length:=by
 induction L with
 |nil=>simp [xO]
 |cons a l ih=>simp only [xO,List.flatMap_cons,List.length_append,List.length_cons] at *; cases AD g a<;>simp only [cond_true,cond_false,List.length_cons,List.length_nil]<;>omega
theorem aj3 {g e:PV} (wg:Wf g) (we:Wf e):Wf (bdV g e):=by
 have z:Wf (.int 0):= .int 0 (by omega) (by omega);have hu:Wf (uj g e):=by
  unfold uj uh;cases h:(aj (aP g) 0).toList.find? (mE (aj e 2).toStr) with
  |none=>exact Wf.zero
  |some u=>exact ((wg.aJ 5 3).aj 0).mem (List.mem_of_find?_eq_some h)
 unfold bdV;cases QM g e with
 |true=>
  refine .agg _ fun q hq=> ?_
  simp only [List.mem_cons,List.not_mem_nil,or_false] at hq;rcases hq with rfl|rfl|rfl|rfl|rfl|rfl|rfl<;>first|exact z|exact afO (we.aj _)|exact afO (hu.aj _)
 |false=>
  refine .agg _ fun q hq=> ?_
  simp only [List.mem_cons,List.not_mem_nil,or_false] at hq;rcases hq with rfl|rfl|rfl|rfl|rfl|rfl|rfl<;>exact z
theorem ajJ {g:PV} (wg:Wf g) {b:PV} (hb:b∈vA g (aj g 12).toList):Wf b:=by
 simp only [vA,List.mem_flatMap] at hb;obtain ⟨e,he,hb⟩:=hb;cases h:QM g e<;>rw [h] at hb
 ·simp at hb
 ·simp only [cond_true,List.mem_singleton] at hb
  subst hb;exact aj3 wg ((wg.aj 12).mem he)
theorem ajr (g:PV) (G:Gen g):vh [g]=some [.bool (ai0 g)]:=by
 have hu:(aj (aP g) 0).toList.length≤aN:=((G.w.aJ 5 3).aj 0).len;have hb:(vA g (aj g 12).toList).length≤aN:=Nat.le_trans (IK _ _) (G.w.aj 12).len;have hr:(xO g (aj g 12).toList).length≤aN:=Nat.le_trans (aj2 _ _) (G.w.aj 12).len;simp only [vh,aA];rw [show aJ g 5 3=aP g from rfl,show aJ g 8 3=xL g from rfl,air g _ hu G.c G.n];simp only [an];rw [aid _ hb];simp only [an,aA,ak,ai0];cases hs:SO (vA g (aj g 12).toList) with
 |false=>rfl
 |true=>
  simp only [Bool.not_true,cond_false,Bool.true_and];rw [aiT g _ hu G.c G.n];simp only [an];rw [show (aj g 12).toList.flatMap (fun e=>cond (AD g e) [wE g e] [])=xO g (aj g 12).toList from rfl,aiz _ _ hr];simp only [an];rw [aY _ hb [] _ _ [.bool false] (aiZ g)]
  ·cases List.all _ _<;>rfl
  ·intro i hi hm
   simp only [aA,toInt_int,aB hi,au,afW,an,D7,aQ,bJ,ak,ade,aiZ];rw [show (PV.agg [.int ((aj (rd (vA g (aj g 12).toList) ↑i) 3).toInt.fdiv 256), .int ((aj (rd (vA g (aj g 12).toList) ↑i) 4).toInt.fdiv 256)])=ain (rd (vA g (aj g 12).toList) ↑i) from rfl];generalize rd (vA g (aj g 12).toList) ↑i=b;cases h3:(aj b 1).toInt==3 with
   |true=>simp
   |false=>
    cases hp:E1 (xL g) (aj b 1).toInt (ain b) with
    |false=>simp
    |true=>
     have h1:=ajl (R:=xO g (aj g 12).toList) hp;have h2:(aj (xL g) 0)=aj g 8:=by simp [xL,aJ,aj,cells,List.getD,List.getElem?_take,List.getElem?_drop]
     rw [h2] at h1;obtain ⟨h4,h5⟩:=ajN h1;simp only [cond_false,Bool.not_true,h4,h5,cond_true,h1,au,aR,aA,ak,Bool.false_or,Bool.true_and];cases (rd (blocked (xL g) (xO g (aj g 12).toList)) (YX (aj g 8).toInt (ain b))).toBool<;>rfl
theorem ajy (g:PV) (G:Gen g):zW [g]=some [.bool (ai0 g)]:=by
 have hu:(aj (aP g) 0).toList.length≤aN:=((G.w.aJ 5 3).aj 0).len;have hb:(vA g (aj g 12).toList).length≤aN:=Nat.le_trans (IK _ _) (G.w.aj 12).len;have hr:(xO g (aj g 12).toList).length≤aN:=Nat.le_trans (aj2 _ _) (G.w.aj 12).len;simp only [zW,aA];rw [show aJ g 5 3=aP g from rfl,show aJ g 8 3=xL g from rfl,aiS g _ hu G.n];simp only [an];rw [ais _ hb];simp only [an,aA,ak,ai0];cases hs:SO (vA g (aj g 12).toList) with
 |false=>rfl
 |true=>
  simp only [Bool.not_true,cond_false,Bool.true_and];rw [ajo g _ hu G.n];simp only [an];rw [show (aj g 12).toList.flatMap (fun e=>cond (AD g e) [wE g e] [])=xO g (aj g 12).toList from rfl,aiY _ _ hr];simp only [an];rw [aY _ hb [] _ _ [.bool false] (aiZ g)]
  ·cases List.all _ _<;>rfl
  ·intro i hi hm
   have wb:=ajJ G.w hm;simp only [aA,toInt_int,aB hi,au];rw [QJ _ (wb.aj 3).lo (wb.aj 3).hi,QJ _ (wb.aj 4).lo (wb.aj 4).hi];simp only [an,NB,aA,aQ,bJ,toInt_int,ak,ad0,aiZ];rw [show (PV.agg [.int ((aj (rd (vA g (aj g 12).toList) ↑i) 3).toInt.fdiv 256), .int ((aj (rd (vA g (aj g 12).toList) ↑i) 4).toInt.fdiv 256)])=ain (rd (vA g (aj g 12).toList) ↑i) from rfl];generalize rd (vA g (aj g 12).toList) ↑i=b;cases h3:(aj b 1).toInt==3 with
   |true=>simp
   |false=>
    cases hp:E1 (xL g) (aj b 1).toInt (ain b) with
    |false=>simp
    |true=>
     have h1:=ajl (R:=xO g (aj g 12).toList) hp;have h2:(aj (xL g) 0)=aj g 8:=by simp [xL,aJ,aj,cells,List.getD,List.getElem?_take,List.getElem?_drop]
     rw [h2] at h1;obtain ⟨h4,h5⟩:=ajN h1;simp only [cond_false,Bool.not_true,h5,cond_true,h1,au,aR,aA,ak,Bool.false_or,Bool.true_and];cases (rd (blocked (xL g) (xO g (aj g 12).toList)) (YX (aj g 8).toInt (ain b))).toBool<;>rfl
end
end Go.Sy.V
