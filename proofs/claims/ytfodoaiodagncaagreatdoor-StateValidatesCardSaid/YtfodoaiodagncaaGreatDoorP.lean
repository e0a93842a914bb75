/-
  Proved here: the program's Validate and the reference's answer the same for all small games, in plain Lean. Its conditions, on the data, stand in the theorems (numbers in their range, short lists).
-/
import Derived.Test.YtfodoaiodagncaaGreatDoorD
set_option linter.unusedVariables false
set_option linter.unusedSimpArgs false
namespace Go.Sy.V
open PV Go.Sy
noncomputable section
section
variable {R:Type}
@[simp] theorem aR (l:List PV) (k:List PV→Option R):aq (some (.inl l)) k=k l:=rfl
@[simp] theorem VL (r:R) (k:List PV→Option R):aq (some (.inr r)) k=some r:=rfl
@[simp] theorem an {α:Type} (a:α) (k:α→Option R):andThen (some a) k=k a:=rfl
@[simp] theorem au (x:Option R):aC true x=x:=rfl
@[simp] theorem dY (r:R):ay (some r)=some (.inr r):=rfl
end
@[simp] theorem gN {α:Type} (b:Bool) (x y:α):cond b (some x) (some y)=some (cond b x y):=by cases b<;>rfl
@[simp] theorem mh {α β:Type} (b:Bool) (x y:α):cond b (Sum.inl x:α ⊕ β) (.inl y)= .inl (cond b x y):=by cases b<;>rfl
@[simp] theorem Qs {α β:Type} (b:Bool) (x y:β):cond b (Sum.inr x:α ⊕ β) (.inr y)= .inr (cond b x y):=by cases b<;>rfl
@[simp] theorem gO {α:Type} (b:Bool) (x y:α) (l m:List α):cond b (x::l) (y::m)=cond b x y::cond b l m:=by cases b<;>rfl
@[simp] theorem je {α:Type} (b:Bool):cond b ([]:List α) []=[]:=by cases b<;>rfl
@[simp] theorem fA (b x y:Bool):cond b (PV.bool x) (.bool y)= .bool (cond b x y):=by cases b<;>rfl
@[simp] theorem VM (b:Bool) (x y:Int):cond b (PV.int x) (.int y)= .int (cond b x y):=by cases b<;>rfl
@[simp] theorem adU (b:Bool) (x y:ByteArray):cond b (PV.str x) (.str y)= .str (cond b x y):=by cases b<;>rfl
@[simp] theorem ac8 (b:Bool) (x y:List PV):cond b (PV.list x) (.list y)= .list (cond b x y):=by cases b<;>rfl
@[simp] theorem adV (b:Bool) (x y:List PV):cond b (PV.agg x) (.agg y)= .agg (cond b x y):=by cases b<;>rfl
@[simp] theorem toInt_int (n:Int):(PV.int n).toInt=n:=rfl
@[simp] theorem ak (n:Bool):(PV.bool n).toBool=n:=rfl
@[simp] theorem aS (n:ByteArray):(PV.str n).toStr=n:=rfl
@[simp] theorem aE (n:List PV):(PV.list n).toList=n:=rfl
@[simp] theorem adW (n:List PV):(PV.agg n).cells=n:=rfl
@[simp] theorem cU (l:List PV) (j:Nat):aj (.agg l) j=nth l j:=rfl
@[simp] theorem aA (a:PV) (l:List PV):nth (a::l) 0=a:=rfl
@[simp] theorem aQ (a b:PV) (l:List PV):nth (a::b::l) 1=b:=rfl
@[simp] theorem aia (a:PV) (l:List PV) (n:Nat):nth (a::l) (n+1)=nth l n:=rfl
@[simp] theorem bJ (a0 a1 a2:PV) (l:List PV):nth (a0::a1::a2::l) 2=a2:=rfl
@[simp] theorem ga (a0 a1 a2 a3:PV) (l:List PV):nth (a0::a1::a2::a3::l) 3=a3:=rfl
@[simp] theorem kW (a0 a1 a2 a3 a4:PV) (l:List PV):nth (a0::a1::a2::a3::a4::l) 4=a4:=rfl
@[simp] theorem mH (a0 a1 a2 a3 a4 a5:PV) (l:List PV):nth (a0::a1::a2::a3::a4::a5::l) 5=a5:=rfl
@[simp] theorem oh (a0 a1 a2 a3 a4 a5 a6:PV) (l:List PV):nth (a0::a1::a2::a3::a4::a5::a6::l) 6=a6:=rfl
@[simp] theorem tM (a0 a1 a2 a3 a4 a5 a6 a7:PV) (l:List PV):nth (a0::a1::a2::a3::a4::a5::a6::a7::l) 7=a7:=rfl
@[simp] theorem tN (a0 a1 a2 a3 a4 a5 a6 a7 a8:PV) (l:List PV):nth (a0::a1::a2::a3::a4::a5::a6::a7::a8::l) 8=a8:=rfl
@[simp] theorem tO (a0 a1 a2 a3 a4 a5 a6 a7 a8 a9:PV) (l:List PV):nth (a0::a1::a2::a3::a4::a5::a6::a7::a8::a9::l) 9=a9:=rfl
@[simp] theorem mW (a0 a1 a2 a3 a4 a5 a6 a7 a8 a9 yK:PV) (l:List PV):nth (a0::a1::a2::a3::a4::a5::a6::a7::a8::a9::yK::l) 10=yK:=rfl
@[simp] theorem mj (a0 a1 a2 a3 a4 a5 a6 a7 a8 a9 yK zn:PV) (l:List PV):nth (a0::a1::a2::a3::a4::a5::a6::a7::a8::a9::yK::zn::l) 11=zn:=rfl
@[simp] theorem mX (a0 a1 a2 a3 a4 a5 a6 a7 a8 a9 yK zn a12:PV) (l:List PV):nth (a0::a1::a2::a3::a4::a5::a6::a7::a8::a9::yK::zn::a12::l) 12=a12:=rfl
@[simp] theorem mY (a0 a1 a2 a3 a4 a5 a6 a7 a8 a9 yK zn a12 EW:PV) (l:List PV):nth (a0::a1::a2::a3::a4::a5::a6::a7::a8::a9::yK::zn::a12::EW::l) 13=EW:=rfl
@[simp] theorem mZ (a0 a1 a2 a3 a4 a5 a6 a7 a8 a9 yK zn a12 EW Gu:PV) (l:List PV):nth (a0::a1::a2::a3::a4::a5::a6::a7::a8::a9::yK::zn::a12::EW::Gu::l) 14=Gu:=rfl
@[simp] theorem m5 (a0 a1 a2 a3 a4 a5 a6 a7 a8 a9 yK zn a12 EW Gu JA:PV) (l:List PV):nth (a0::a1::a2::a3::a4::a5::a6::a7::a8::a9::yK::zn::a12::EW::Gu::JA::l) 15=JA:=rfl
@[simp] theorem m6 (a0 a1 a2 a3 a4 a5 a6 a7 a8 a9 yK zn a12 EW Gu JA Lv:PV) (l:List PV):nth (a0::a1::a2::a3::a4::a5::a6::a7::a8::a9::yK::zn::a12::EW::Gu::JA::Lv::l) 16=Lv:=rfl
@[simp] theorem m7 (a0 a1 a2 a3 a4 a5 a6 a7 a8 a9 yK zn a12 EW Gu JA Lv Oe:PV) (l:List PV):nth (a0::a1::a2::a3::a4::a5::a6::a7::a8::a9::yK::zn::a12::EW::Gu::JA::Lv::Oe::l) 17=Oe:=rfl
@[simp] theorem m8 (a0 a1 a2 a3 a4 a5 a6 a7 a8 a9 yK zn a12 EW Gu JA Lv Oe Rw:PV) (l:List PV):nth (a0::a1::a2::a3::a4::a5::a6::a7::a8::a9::yK::zn::a12::EW::Gu::JA::Lv::Oe::Rw::l) 18=Rw:=rfl
@[simp] theorem m9 (a0 a1 a2 a3 a4 a5 a6 a7 a8 a9 yK zn a12 EW Gu JA Lv Oe Rw Us:PV) (l:List PV):nth (a0::a1::a2::a3::a4::a5::a6::a7::a8::a9::yK::zn::a12::EW::Gu::JA::Lv::Oe::Rw::Us::l) 19=Us:=rfl
@[simp] theorem ahN (a0 a1 a2 a3 a4 a5 a6 a7 a8 a9 yK zn a12 EW Gu JA Lv Oe Rw Us a20:PV) (l:List PV):nth (a0::a1::a2::a3::a4::a5::a6::a7::a8::a9::yK::zn::a12::EW::Gu::JA::Lv::Oe::Rw::Us::a20::l) 20=a20:=rfl
@[simp] theorem ahO (a0 a1 a2 a3 a4 a5 a6 a7 a8 a9 yK zn a12 EW Gu JA Lv Oe Rw Us a20 a21:PV) (l:List PV):nth (a0::a1::a2::a3::a4::a5::a6::a7::a8::a9::yK::zn::a12::EW::Gu::JA::Lv::Oe::Rw::Us::a20::a21::l) 21=a21:=rfl
@[simp] theorem ahP (a0 a1 a2 a3 a4 a5 a6 a7 a8 a9 yK zn a12 EW Gu JA Lv Oe Rw Us a20 a21 a22:PV) (l:List PV):nth (a0::a1::a2::a3::a4::a5::a6::a7::a8::a9::yK::zn::a12::EW::Gu::JA::Lv::Oe::Rw::Us::a20::a21::a22::l) 22=a22:=rfl
@[simp] theorem ahQ (a0 a1 a2 a3 a4 a5 a6 a7 a8 a9 yK zn a12 EW Gu JA Lv Oe Rw Us a20 a21 a22 a23:PV) (l:List PV):nth (a0::a1::a2::a3::a4::a5::a6::a7::a8::a9::yK::zn::a12::EW::Gu::JA::Lv::Oe::Rw::Us::a20::a21::a22::a23::l) 23=a23:=rfl
@[simp] theorem ahR (a0 a1 a2 a3 a4 a5 a6 a7 a8 a9 yK zn a12 EW Gu JA Lv Oe Rw Us a20 a21 a22 a23 a24:PV) (l:List PV):nth (a0::a1::a2::a3::a4::a5::a6::a7::a8::a9::yK::zn::a12::EW::Gu::JA::Lv::Oe::Rw::Us::a20::a21::a22::a23::a24::l) 24=a24:=rfl
@[simp] theorem ahS (a0 a1 a2 a3 a4 a5 a6 a7 a8 a9 yK zn a12 EW Gu JA Lv Oe Rw Us a20 a21 a22 a23 a24 a25:PV) (l:List PV):nth (a0::a1::a2::a3::a4::a5::a6::a7::a8::a9::yK::zn::a12::EW::Gu::JA::Lv::Oe::Rw::Us::a20::a21::a22::a23::a24::a25::l) 25=a25:=rfl
theorem le_max {n:Nat} (h:n≤4096):n≤aN:=Nat.le_trans h (by decide)
theorem e_ {i n:Nat} (h:i<n):aK (i:Int) n=true:=by simp [aK]; omega
theorem iQ {i n:Nat} (h: ¬ i<n):aK (i:Int) n=false:=by simp [aK]; omega
theorem aB {i n:Nat} (h:i<n):bp (i:Int) n=true:=by simp [bp]; omega
theorem wrap_i64 {n:Int} (h1: -9223372036854775808≤n) (h2:n<9223372036854775808):IntKind.i64.wrap n=n:=by
 simp [IntKind.wrap,IntKind.bits,IntKind.signed]; omega
theorem fB (p:PV) (off n j:Nat) (h:j<n):aj (aJ p off n) j=aj p (off+j):=by
 simp [aj,aJ,h,List.getElem?_drop]
theorem Ut {R:Type} (f:List PV→Option (List PV ⊕ R)) (ρ:List PV) (r:R) (n:Nat) (h:rounds f n ρ=some r):iter f ρ=some r:=by
 have mono: ∀ n m ρ (r:R),rounds f n ρ=some r→n≤m→rounds f m ρ=some r:=by
  intro n;induction n with
  |zero=>intro m ρ r h; simp [rounds] at h
  |succ n ih=>
   intro m ρ r h hm;obtain ⟨m,rfl⟩: ∃ k,m=k+1:=⟨m - 1,by omega⟩;simp only [rounds] at h ⊢;split at h
   ·simp at h
   ·exact ih _ _ _ h (by omega)
   ·exact h
 have hx: ∃ r n,rounds f n ρ=some r:=⟨r,n,h⟩;have:=hx.choose_spec;obtain ⟨m,hm⟩:=this;simp only [iter,dif_pos hx];have h1:=mono _ (max m n) _ _ hm (by omega);have h2:=mono _ (max m n) _ _ h (by omega);rw [h1] at h2; exact h2
theorem b_ {R:Type} (f:List PV→Option (List PV ⊕ R)) (ρ:List PV):iter f ρ=aq (f ρ) (iter f):=by
 by_cases hx: ∃ r n,rounds f n ρ=some r
 ·obtain ⟨r,n,h⟩:=hx
  rw [Ut f ρ r n h];cases n with
  |zero=>simp [rounds] at h
  |succ n=>
   simp only [rounds] at h;split at h
   ·simp at h
   ·rename_i e; rw [e]; simp [Ut f _ r n h]
   ·rename_i e; rw [e]; simp_all
 ·have:iter f ρ=none:=by simp only [iter,dif_neg hx]
  rw [this]
  match h:f ρ with
  |none=>rfl
  |some (.inr r)=>exact (hx ⟨r,1,by simp [rounds,h]⟩).elim
  |some (.inl ρ')=>
   simp only [aR];by_cases hy: ∃ r n,rounds f n ρ'=some r
   ·obtain ⟨r,n,h'⟩:=hy
    exact (hx ⟨r,n+1,by simp [rounds,h,h']⟩).elim
   ·simp only [iter,dif_neg hy]
def scan {R:Type} (step:Nat→Option R) (fin:R):Nat→Nat→R
 |0,_=>fin
 |k+1,i=>match step i with
  |some r=>r
  |none=>scan step fin k (i+1)
theorem aaF {R:Type} (L:List PV) (step:PV→Option R) (fin:R): ∀ k i,i+k=L.length→scan (fun i=>step (rd L i)) fin k i=((L.drop i).findSome? step).getD fin:=by
 intro k;induction k with
 |zero=>intro i e; simp [scan,List.drop_eq_nil_of_le (show L.length≤i by omega)]
 |succ k ih=>
  intro i e;have hi:i<L.length:=by omega
  rw [List.drop_eq_getElem_cons hi];have e1:rd L i=L[i]:=by simp [rd,hi]
  simp only [scan,List.findSome?_cons,e1];cases step L[i] with
  |some r=>rfl
  |none=>exact ih (i+1) (by omega)
theorem Av {R:Type} (n st:Nat) (hn:n≤aN) (rest:List PV) (B:List PV→Option (List PV ⊕ R)) (E:Option R) (step:Nat→Option R)
  (hB: ∀ i:Nat,i<n→st≤i→B (.int i::rest)=some (match step i with|some r=> .inr r|none=> .inl (.int (IntKind.i64.wrap (i+1))::rest))):
  iter (fun ρ=>cond (aK (nth ρ 0).toInt (n:Int)) (B ρ) (ay E)) (.int st::rest)=scan (fun i=>(step i).map some) E (n - st) st:=by
 have hw: ∀ i:Nat,i<n→IntKind.i64.wrap ((i:Int)+1)=((i+1:Nat):Int):=by
  intro i hi; rw [wrap_i64 (by omega) (by simp only [aN] at hn; omega)]; simp
 have key: ∀ k i:Nat,k=n - i→st≤i→iter (fun ρ=>cond (aK (nth ρ 0).toInt (n:Int)) (B ρ) (ay E)) (.int i::rest)=scan (fun i=>(step i).map some) E k i:=by
  intro k;induction k with
  |zero=>intro i e hs; rw [b_]; simp [scan,iQ (show ¬ i<n by omega)]; cases E<;>rfl
  |succ k ih=>
   intro i e hs;rw [b_];have hi:i<n:=by omega
   simp only [aA,toInt_int,e_ hi,cond_true,hB i hi hs,scan];cases step i with
   |some r=>rfl
   |none=>simp only [aR,hw i hi]; exact ih (i+1) (by omega) (by omega)
 exact key (n - st) st rfl (by omega)
theorem bO {R:Type} (n:Nat) (hn:n≤aN) (rest:List PV) (B:List PV→Option (List PV ⊕ R)) (E:Option R) (step:Nat→Option R)
  (hB: ∀ i:Nat,i<n→B (.int i::rest)=some (match step i with|some r=> .inr r|none=> .inl (.int (IntKind.i64.wrap (i+1))::rest))):
  iter (fun ρ=>cond (aK (nth ρ 0).toInt (n:Int)) (B ρ) (ay E)) (.int 0::rest)=scan (fun i=>(step i).map some) E n 0:=Av n 0 hn rest B E step (fun i h _=>hB i h)
theorem Aw {R:Type} (n:Nat) (hn:n≤aN) (rest:List PV) (B:List PV→Option (List PV ⊕ R)) (E:Option R) (step:Nat→Option R)
  (hB: ∀ i:Nat,i<n→1≤i→B (.int i::rest)=some (match step i with|some r=> .inr r|none=> .inl (.int (IntKind.i64.wrap (i+1))::rest))):
  iter (fun ρ=>cond (aK (nth ρ 0).toInt (n:Int)) (B ρ) (ay E)) (.int 1::rest)=scan (fun i=>(step i).map some) E (n - 1) 1:=Av n 1 hn rest B E step hB
theorem m_ {L:List PV} {i:Nat} (h:i<L.length):rd L i∈L:=by simp [rd,h]
theorem vq {R:Type} (L:List PV) (hn:L.length≤aN) (rest:List PV) (B:List PV→Option (List PV ⊕ R)) (E:Option R) (step:PV→Option R)
  (hB: ∀ i:Nat,i<L.length→rd L i∈L→B (.int i::rest)=some (match step (rd L i) with|some r=> .inr r|none=> .inl (.int (IntKind.i64.wrap (i+1))::rest))):
  iter (fun ρ=>cond (aK (nth ρ 0).toInt (L.length:Int)) (B ρ) (ay E)) (.int 0::rest)=(L.findSome? fun x=>(step x).map some).getD E:=by
 have:=Av L.length 0 hn rest B E (fun i=>step (rd L i)) (fun i h _=>hB i h (m_ h));rw [aaF L (fun x=>(step x).map some) E (L.length - 0) 0 (by omega)] at this;exact this
theorem aY {R:Type} (L:List PV) (hn:L.length≤aN) (rest:List PV) (B:List PV→Option (List PV ⊕ R)) (E:Option R) (bad:R) (p:PV→Bool)
  (hB: ∀ i:Nat,i<L.length→rd L i∈L→B (.int i::rest)=some (cond (p (rd L i)) (.inl (.int (IntKind.i64.wrap (i+1))::rest)) (.inr bad))):
  iter (fun ρ=>cond (aK (nth ρ 0).toInt (L.length:Int)) (B ρ) (ay E)) (.int 0::rest)=cond (L.all p) E (some bad):=by
 rw [vq L hn rest B E (fun x=>cond (p x) none (some bad)) (fun i h hm=>by rw [hB i h hm]; cases p (rd L i)<;>rfl)];clear hB hn;induction L with
 |nil=>rfl
 |cons a l ih=>
  simp only [List.findSome?_cons,List.all_cons];cases h:p a with
  |false=>rfl
  |true=>simpa using ih
theorem fV {R:Type} (L:List PV) (hn:L.length≤aN) (rest:List PV) (B:List PV→Option (List PV ⊕ R)) (E:Option R) (g:PV→R) (p:PV→Bool)
  (hB: ∀ i:Nat,i<L.length→rd L i∈L→B (.int i::rest)=some (cond (p (rd L i)) (.inr (g (rd L i))) (.inl (.int (IntKind.i64.wrap (i+1))::rest)))):
  iter (fun ρ=>cond (aK (nth ρ 0).toInt (L.length:Int)) (B ρ) (ay E)) (.int 0::rest)=match L.find? p with|some x=>some (g x)|none=>E:=by
 rw [vq L hn rest B E (fun x=>cond (p x) (some (g x)) none) (fun i h hm=>by rw [hB i h hm]; cases p (rd L i)<;>rfl)];clear hB hn;induction L with
 |nil=>rfl
 |cons a l ih=>
  simp only [List.findSome?_cons,List.find?_cons];cases h:p a with
  |true=>rfl
  |false=>simpa using ih
theorem B6 {R:Type} (L:List PV) (hn:L.length≤aN) (B:List PV→Option (List PV ⊕ (List PV ⊕ R))) (bad:PV→Bool) (k:List PV→Option R) (kt kf:Option R)
  (hB: ∀ i:Nat,i<L.length→rd L i∈L→B [.int i]=some (cond (bad (rd L i)) (.inr (.inl [.int i])) (.inl [.int (IntKind.i64.wrap (i+1))])))
  (h1: ∀ i:Nat,k [.int i]=kt) (h2:k [.int (-1)]=kf):
  aq (iter (fun ρ=>cond (aK (nth ρ 0).toInt (L.length:Int)) (B ρ) (ay (some (.inl [.int (-1)])))) [.int 0]) k=cond (L.any bad) kt kf:=by
 rw [bO L.length hn [] B _ (fun i=>cond (bad (rd L i)) (some (.inl [.int i])) none) (fun i h=>by rw [hB i h (m_ h)]; cases bad (rd L i)<;>rfl)];clear hB;have key: ∀ k' i,i+k'=L.length→aq (scan (fun i=>(cond (bad (rd L i)) (some (Sum.inl [PV.int i])) none:Option (List PV ⊕ R)).map some) (some (.inl [.int (-1)])) k' i) k=cond ((L.drop i).any bad) kt kf:=by
  intro k';induction k' with
  |zero=>intro i e; simp [scan,List.drop_eq_nil_of_le (show L.length≤i by omega),h2]
  |succ k' ih=>
   intro i e;have hi:i<L.length:=by omega
   rw [List.drop_eq_getElem_cons hi];have e1:rd L i=L[i]:=by simp [rd,hi]
   simp only [scan,List.any_cons,e1];cases bad L[i] with
   |true=>simp [h1]
   |false=>simpa using ih (i+1) (by omega)
 simpa using key L.length 0 (by omega)
theorem tP {R:Type} (L:List PV) (hn:L.length≤aN) (B:List PV→Option (List PV ⊕ R)) (E:List PV→Option R) (g:PV→PV→PV) (I:Nat→PV→Prop)
  (hI: ∀ i:Nat,i<L.length→ ∀ a,I i a→I (i+1) (g a (rd L i)))
  (hB: ∀ i:Nat,i<L.length→rd L i∈L→ ∀ a,I i a→B [a, .int i]=some (.inl [g a (rd L i), .int (IntKind.i64.wrap (i+1))])) (a:PV) (ha:I 0 a):
  iter (fun ρ=>cond (aK (nth ρ 1).toInt (L.length:Int)) (B ρ) (ay (E ρ))) [a, .int 0]=E [L.foldl g a, .int L.length]:=by
 have hw: ∀ i:Nat,i<L.length→IntKind.i64.wrap ((i:Int)+1)=((i+1:Nat):Int):=by
  intro i hi; rw [wrap_i64 (by omega) (by simp only [aN] at hn; omega)]; simp
 have key: ∀ k i:Nat,k+i=L.length→ ∀ a,I i a→iter (fun ρ=>cond (aK (nth ρ 1).toInt (L.length:Int)) (B ρ) (ay (E ρ))) [a, .int i]=E [(L.drop i).foldl g a, .int L.length]:=by
  intro k;induction k with
  |zero=>
   intro i e a ha;obtain rfl:i=L.length:=by omega
   rw [b_]; simp [aK]; cases E _<;>rfl
  |succ k ih=>
   intro i e a ha;rw [b_];have hi:i<L.length:=by omega
   simp only [aQ,toInt_int,e_ hi,cond_true,hB i hi (m_ hi) a ha,aR,hw i hi];rw [ih (i+1) (by omega) _ (hI i hi a ha),List.drop_eq_getElem_cons hi,List.foldl_cons];have e1:rd L i=L[i]:=by simp [rd,hi]
   rw [e1]
 exact key L.length 0 (by omega) a ha
theorem YH (L:List PV) (p:PV→Bool) (b:Bool):L.foldl (fun a x=>PV.bool (a.toBool&&p x)) (PV.bool b)=PV.bool (b&&L.all p):=by
 induction L generalizing b with
 |nil=>simp
 |cons a l ih=>simp only [List.foldl_cons,ih,ak,List.all_cons,Bool.and_assoc]
theorem B7 (L:List PV) (h:PV→List PV) (b:List PV):L.foldl (fun a x=>PV.list (a.toList++h x)) (PV.list b)=PV.list (b++L.flatMap h):=by
 induction L generalizing b with
 |nil=>simp
 |cons a l ih=>simp only [List.foldl_cons,ih,aE,List.flatMap_cons,List.append_assoc]
theorem B8 {R:Type} (L:List PV) (hn:L.length≤aN) (B:List PV→Option (List PV ⊕ R)) (E:List PV→Option R) (p:PV→Bool) (b:Bool)
  (hB: ∀ i:Nat,i<L.length→rd L i∈L→ ∀ b,B [.bool b, .int i]=some (.inl [.bool (b&&p (rd L i)), .int (IntKind.i64.wrap (i+1))])):
  iter (fun ρ=>cond (aK (nth ρ 1).toInt (L.length:Int)) (B ρ) (ay (E ρ))) [.bool b, .int 0]=E [.bool (b&&L.all p), .int L.length]:=by
 rw [tP L hn B E (fun a x=> .bool (a.toBool&&p x)) (fun _ a=> ∃ b,a= .bool b) (fun i hi a _=>⟨_,rfl⟩) (fun i hi hm a ⟨b,e⟩=>by rw [e]; exact hB i hi hm b) _ ⟨b,rfl⟩,YH]
theorem om {R:Type} (L:List PV) (hn:L.length≤aN) (B:List PV→Option (List PV ⊕ R)) (E:List PV→Option R) (h:PV→List PV) (k:Nat) (hk: ∀ x,(h x).length=k) (l0:List PV)
  (hB: ∀ i:Nat,i<L.length→rd L i∈L→ ∀ l:List PV,l.length=l0.length+i*k→B [.list l, .int i]=some (.inl [.list (l++h (rd L i)), .int (IntKind.i64.wrap (i+1))])):
  iter (fun ρ=>cond (aK (nth ρ 1).toInt (L.length:Int)) (B ρ) (ay (E ρ))) [.list l0, .int 0]=E [.list (l0++L.flatMap h), .int L.length]:=by
 rw [tP L hn B E (fun a x=> .list (a.toList++h x)) (fun i a=> ∃ l:List PV,a= .list l∧l.length=l0.length+i*k) (fun i hi a ⟨l,e,hl⟩=>⟨_,rfl,by simp [e,hl,hk,Nat.add_mul]; omega⟩) (fun i hi hm a ⟨l,e,hl⟩=>by rw [e]; exact hB i hi hm l hl) _ ⟨l0,rfl,by simp⟩,B7]
theorem oo (L:List PV) (h:PV→List PV) (k:Nat) (hk: ∀ x,(h x).length=k):(L.flatMap h).length=L.length*k:=by
 induction L with
 |nil=>simp
 |cons a l ih=>simp [List.flatMap_cons,ih,hk,Nat.add_mul]; omega
theorem bh {b n:Nat} (hb:b≤1000) (hn:n≤4096):dO b n=true:=by
 have:n*b≤4096*1000:=Nat.mul_le_mul hn hb;simp only [dO,Nat.ble_eq]; omega
inductive Wf:PV→Prop where
 |int (n:Int): -9223372036854775808≤n→n<18446744073709551616→Wf (.int n)
 |bool (b:Bool):Wf (.bool b)
 |str (s:ByteArray):s.size≤aN→Wf (.str s)
 |list (l:List PV):l.length≤aN→(∀ p∈l,Wf p)→Wf (.list l)
 |agg (l:List PV):(∀ p∈l,Wf p)→Wf (.agg l)
theorem Wf.zero:Wf PV.zero:= .int 0 (by decide) (by decide)
@[simp] theorem agr (b:Bool):Wf (.bool b):= .bool b
@[simp] theorem afO {p:PV} (h:Wf p):Wf (.int p.toInt):=by
 cases h with
 |int n a b=>exact .int n a b
 |_=>exact Wf.zero
theorem Wf.lo {p:PV} (h:Wf p): -9223372036854775808≤p.toInt:=by
 cases h with
 |int n a b=>exact a
 |_=>simp [PV.toInt]
theorem Wf.hi {p:PV} (h:Wf p):p.toInt<18446744073709551616:=by
 cases h with
 |int n a b=>exact b
 |_=>simp [PV.toInt]
@[simp] theorem Wf.size {p:PV} (h:Wf p):p.toStr.size≤aN:=by
 cases h with
 |str s a=>exact a
 |_=>simp [PV.toStr,ByteArray.size]
@[simp] theorem Wf.len {p:PV} (h:Wf p):p.toList.length≤aN:=by
 cases h with
 |list s a b=>exact a
 |_=>simp [PV.toList]
theorem Wf.mem {p q:PV} (h:Wf p) (hq:q∈p.toList):Wf q:=by
 cases h with
 |list s a b=>exact b q hq
 |_=>simp [PV.toList] at hq
theorem Uu {l:List PV} (h: ∀ p∈l,Wf p) (i:Nat):Wf (l.getD i .zero):=by
 rw [List.getD_eq_getElem?_getD];by_cases hi:i<l.length
 ·simp [hi]; exact h _ (List.getElem_mem hi)
 ·rw [List.getElem?_eq_none (by omega)]; exact Wf.zero
theorem Wf.cells {p:PV} (h:Wf p): ∀ q∈p.cells,Wf q:=by
 cases h with
 |agg s b=>exact b
 |_=>intro q hq; simp [PV.cells] at hq
@[simp] theorem Wf.aj {p:PV} (h:Wf p) (j:Nat):Wf (aj p j):=Uu h.cells j
@[simp] theorem Wf.rd {p:PV} (h:Wf p) (i:Int):Wf (rd p.toList i):=Uu (fun _=>h.mem) _
@[simp] theorem Wf.aJ {p:PV} (h:Wf p) (a b:Nat):Wf (aJ p a b):= .agg _ (fun q hq=>h.cells q (List.mem_of_mem_drop (List.mem_of_mem_take hq)))
@[simp] theorem ahT {s:ByteArray}:Wf (.str s)↔s.size≤aN:=⟨fun h=>by cases h; assumption, .str s⟩
@[simp] theorem ags {s:List PV}:Wf (.list s)↔s.length≤aN∧ ∀ p∈s,Wf p:=⟨fun h=>by cases h; exact ⟨by assumption,by assumption⟩,fun h=> .list s h.1 h.2⟩
end
end Go.Sy.V
namespace Go.Sy.V
open PV Go.Sy
noncomputable section
def YI (c:Int):Bool:=(aK c 97||bq c 122)&&(aK c 48||bq c 57)&&(c != 95)
def eN (s:ByteArray):Bool:= !((aK (s.size:Int) 1||(bq (s.size:Int) 12||(aK (bt s 0) 97||bq (bt s 0) 122))))&&scan (fun i=>if YI (bt s i) then some false else none) true s.size 0
theorem VN (s:ByteArray):aM s (ByteArray.mk #[])=aK (s.size:Int) 1:=by
 simp only [aM,aK,ByteArray.size, ←Array.length_toList];rw [decide_eq_decide];cases s.data.toList with
 |nil=>simp
 |cons=>simp; omega
theorem xH {R S:Type} (g:R→S) (step:Nat→Option R) (fin:R): ∀ k i,scan (fun i=>(step i).map g) (g fin) k i=g (scan step fin k i):=by
 intro k;induction k with
 |zero=>intro i; rfl
 |succ k ih=>intro i; simp only [scan]; cases step i with
  |none=>exact ih _
  |some r=>rfl
theorem Il {R:Type} {a b:Nat→Option R} {fin:R}: ∀ k i,(∀ j,i≤j→j<i+k→a j=b j)→scan a fin k i=scan b fin k i:=by
 intro k;induction k with
 |zero=>intro i h; rfl
 |succ k ih=>intro i h; simp only [scan]; rw [h i (by omega) (by omega),ih (i+1) (fun j h1 h2=>h j (by omega) (by omega))]
theorem yO {R:Type} (step:Nat→Option R) (fin:R) (k i):scan (fun i=>(step i).map some) (some fin) k i=some (scan step fin k i):=xH some step fin k i
theorem jQ (s:ByteArray) (hs:s.size≤aN):dK [.str s]=some [PV.bool (eN s)]:=by
 simp only [dK,aA,aS];have h0: ¬ ((s.size:Int)<1)→bp 0 s.size=true:=fun h=>aB (i:=0) (by omega)
 rw [bO (R:=List PV) s.size hs [] _ (some [PV.bool true]) (fun i=>Option.map (fun b=>[PV.bool b]) (if YI (bt s i) then some false else none))]
 ·rw [yO,xH (fun b=>[PV.bool b]),VN]
  by_cases h:((s.size:Int)<1)
  ·simp [h,eN,aK]
  ·simp only [h0 h,au]
   simp [eN]
 ·intro i hi
  simp only [aA,toInt_int,YI,aB hi,au]
  grind [aq,ay,aA,ak,aK,bq,cI,bE]
theorem xI (s:ByteArray) (hs:s.size≤aN):iB [.str s]=some [PV.bool (eN s)]:=by
 simp only [iB,aA,aS];have h0: ¬ ((s.size:Int)<1)→bp 0 s.size=true:=fun h=>aB (i:=0) (by omega)
 rw [bO (R:=List PV) s.size hs [] _ (some [PV.bool true]) (fun i=>Option.map (fun b=>[PV.bool b]) (if YI (bt s i) then some false else none))]
 ·rw [yO,xH (fun b=>[PV.bool b])]
  by_cases h:((s.size:Int)<1)
  ·simp [h,eN,aK]
  ·simp only [h0 h,au]
   simp [eN]
 ·intro i hi
  simp only [aA,toInt_int,YI,aB hi,au]
  grind [aq,ay,aA,ak,aK,bq,cI,bE]
def mB (x lo hi:Int):Bool:=bE x lo&&cI x hi
@[simp] theorem Qt (ρ):cT ρ=some [.bool (mB (nth ρ 0).toInt (nth ρ 1).toInt (nth ρ 2).toInt)]:=by
 simp only [cT,mB]; grind [aq,aA,ak]
@[simp] theorem Im (ρ):b8 ρ=some [.bool (mB (nth ρ 0).toInt (nth ρ 1).toInt (nth ρ 2).toInt)]:=by
 simp only [b8,mB]; grind [aq,aA,ak]
@[simp] theorem Qu (ρ):dm ρ=some [.bool (mB (nth ρ 0).toInt 0 100000)]:=by simp [dm]
@[simp] theorem J1 (ρ):jv ρ=some [.bool (!mB (nth ρ 0).toInt 0 100000)]:=by simp [jv]
@[simp] theorem EX (ρ) (h:(nth ρ 0).toList.length≤aN):fy ρ=some [.bool ((nth ρ 0).toList.all fun x=>mB x.toInt 0 100000)]:=by
 simp only [fy];rw [B6 (nth ρ 0).toList h _ (fun x=> !mB x.toInt 0 100000) _ (some [.bool false]) (some [.bool true]) _ (by simp [bE]) (by simp [bE])]
 ·rw [gN,gO,je,fA]; simp [List.all_eq_not_any_not]
 ·intro i hi hm
  simp only [aA,toInt_int,aB hi,au,J1,an]
  grind [aq,ay,aA,ak,aK,bq,cI,bE]
def Ns (u:PV):Bool:=mB (aj u 8).toInt 0 16&&mB (aj u 9).toInt 1 100000&&mB (aj u 10).toInt 0 100000&&mB (aj u 13).toInt 0 100000&&mB (aj u 14).toInt 0 100000&&mB (aj u 15).toInt 0 100000&&
 cond (aj u 1).toBool ((aj u 3).toInt==0&&mB (aj u 4).toInt 1 4&&mB (aj u 5).toInt 1 4&&(aj u 6).toInt==0&&(aj u 7).toInt==0&&(aj u 11).toInt==0)
  (!(aj u 2).toBool&&mB (aj u 3).toInt 1 3&&(aj u 4).toInt==0&&(aj u 5).toInt==0&&mB (aj u 6).toInt 16 128&&mB (aj u 7).toInt 0 256&&mB (aj u 11).toInt 0 100000)
theorem B9 (ρ):fL ρ=some [.bool (Ns (nth ρ 0))]:=by
 simp [fL,le_max,Ns]
 grind
theorem SA (ρ):pg ρ=some [.bool (Ns (nth ρ 0))]:=by
 simp [pg,Ns]
 grind
end
end Go.Sy.V
namespace Go.Sy.V
open PV Go.Sy
noncomputable section
def big (n:PV) (k:Int):Bool:=bq (n.toList.length:Int) k
def Io (r:PV):Bool:= !(big (aj r 0) 16||(big (aj r 1) 8||big (aj r 2) 12))&&((aj r 0).toList.all (fun u=> !(big (aj u 16) 4||(big (aj u 17) 4||big (aj u 18) 4)))&&(aj r 2).toList.all fun t=> !big (aj t 1) 4)
structure oA (r:PV):Prop where
 u:(aj r 0).toList.length≤40
 w:(aj r 1).toList.length≤40
 t:(aj r 2).toList.length≤40
def sM (r:PV):List PV:=(aj r 0).toList.flatMap (fun u=>[.list (aj u 16).toList, .list (aj u 17).toList, .list (aj u 18).toList])++(aj r 2).toList.flatMap fun t=>[.list (aj t 1).toList]
theorem Ip {r:PV} (h:oA r):(sM r).length≤160:=by
 have h1:=h.u; have h2:=h.t;simp only [sM,List.length_append];rw [oo _ _ 3 (fun _=>rfl),oo _ _ 1 (fun _=>rfl)]; omega
theorem EY (ρ) (h:oA (nth ρ 0)):i7 ρ=some [.list (sM (nth ρ 0))]:=by
 have hu:=h.u; have ht:=h.t;simp only [i7];rw [om _ (le_max (by omega)) _ _ (fun u=>[.list (aj u 16).toList, .list (aj u 17).toList, .list (aj u 18).toList]) 3 (fun _=>rfl) []]
 ·simp only [aA,aE]
  rw [om _ (le_max (by omega)) _ _ (fun t=>[.list (aj t 1).toList]) 1 (fun _=>rfl)]
  ·simp [sM]
  ·intro i hi hm l hl
   simp only [aA,aQ,toInt_int,aE,aB hi,au];rw [bh (by omega) (by rw [hl,List.nil_append,oo _ _ 3 (fun _=>rfl)]; simp; omega)]; simp
 ·intro i hi hm l hl
  simp only [aA,aQ,toInt_int,aE,aB hi,au];rw [bh (by omega) (by simp at *; omega)]; simp
theorem Nt (ρ) (h:oA (nth ρ 0)) (w:Wf (nth ρ 0)):lS ρ=some [.bool (Io (nth ρ 0))]:=by
 simp only [lS,EY [nth ρ 0] h,an,aA,aE];rw [B6 (sM (nth ρ 0)) (le_max (Nat.le_trans (Ip h) (by omega))) _ (fun x=>big x 4) _ (some [.bool false]) (some [.bool true]) _ (by intro i; simp [bE]) (by simp [bE])]
 ·simp [Io,big,sM,List.any_flatMap,List.any_append]
  simp [List.all_eq_not_any_not]
 ·intro i hi hm
  simp only [aA,toInt_int,aB hi,au,mU,an,big,ak,aE]
  grind [aq,ay,aA,ak,aK,bq,cI,bE]
theorem SB (ρ) (h:oA (nth ρ 0)) (w:Wf (nth ρ 0)):pe ρ=some [.bool (Io (nth ρ 0))]:=by
 have hu:=h.u; have ht:=h.t;simp only [pe];rw [aY _ (le_max (by omega)) [] _ _ [.bool false] (fun u=> !(big (aj u 16) 4||(big (aj u 17) 4||big (aj u 18) 4)))]
 ·rw [aY _ (le_max (by omega)) [] _ _ [.bool false] (fun t=> !big (aj t 1) 4)]
  ·simp [Io,big]
  ·intro i hi hm
   simp only [aA,toInt_int,aB hi,au,big]
   grind [aq,ay,aA,ak,aK,bq,cI,bE]
 ·intro i hi hm
  simp only [aA,toInt_int,aB hi,au,big]
  grind [aq,ay,aA,ak,aK,bq,cI,bE]
def YJ (r:PV):Bool:=(aj r 0).toList.all (fun u=>eN (aj u 0).toStr)&&((aj r 1).toList.all (fun u=>eN (aj u 0).toStr)&&(aj r 2).toList.all (fun u=>eN (aj u 0).toStr))
theorem Qv (ρ) (w:Wf (nth ρ 0)):nF ρ=some [.bool (YJ (nth ρ 0))]:=by
 simp only [nF];have key: ∀ k i,i<(aj (nth ρ 0) k).toList.length→(aj (rd (aj (nth ρ 0) k).toList i) 0).toStr.size≤aN:=fun k i hi=>(((w.aj k).rd i).aj 0).size
 rw [aY _ (w.aj 0).len [] _ _ [.bool false] (fun u=>eN (aj u 0).toStr)]
 ·rw [aY _ (w.aj 1).len [] _ _ [.bool false] (fun u=>eN (aj u 0).toStr)]
  ·rw [aY _ (w.aj 2).len [] _ _ [.bool false] (fun u=>eN (aj u 0).toStr)]
   ·simp [YJ]
   ·intro i hi hm
    simp only [aA,toInt_int,aB hi,au];rw [jQ _ (key 2 i hi)]; grind [andThen,ay,aA,ak]
  ·intro i hi hm
   simp only [aA,toInt_int,aB hi,au];rw [jQ _ (key 1 i hi)]; grind [andThen,ay,aA,ak]
 ·intro i hi hm
  simp only [aA,toInt_int,aB hi,au];rw [jQ _ (key 0 i hi)]; grind [andThen,ay,aA,ak]
def names (L:List PV):List PV:=L.flatMap fun u=>[.str (aj u 0).toStr]
theorem dH (L:List PV):(names L).length=L.length:=by simp [names,oo _ _ 1]
theorem YK {L:List PV} (h: ∀ u∈L,Wf u): ∀ p∈names L,Wf p:=by
 intro p hp;simp only [names,List.mem_flatMap,List.mem_singleton] at hp;obtain ⟨u,hu,rfl⟩:=hp;exact .str _ ((h u hu).aj 0).size
theorem yP (ρ) (h:oA (nth ρ 0)):iA ρ=some (names (aj (nth ρ 0) 0).toList):=by
 have hu:=h.u;simp only [iA];rw [om _ (le_max (by omega)) _ _ (fun u=>[.str (aj u 0).toStr]) 1 (fun _=>rfl) []]
 ·simp [names]
 ·intro i hi hm l hl
  simp only [aA,aQ,toInt_int,aE,aB hi,au];rw [bh (by omega) (by simp at *; omega)]; simp
theorem xJ (ρ) (h:oA (nth ρ 0)):gM ρ=some (names (aj (nth ρ 0) 1).toList):=by
 have hu:=h.w;simp only [gM];rw [om _ (le_max (by omega)) _ _ (fun u=>[.str (aj u 0).toStr]) 1 (fun _=>rfl) []]
 ·simp [names]
 ·intro i hi hm l hl
  simp only [aA,aQ,toInt_int,aE,aB hi,au];rw [bh (by omega) (by simp at *; omega)]; simp
theorem tQ (ρ) (h:oA (nth ρ 0)):fZ ρ=some (names (aj (nth ρ 0) 2).toList):=by
 have hu:=h.t;simp only [fZ];rw [om _ (le_max (by omega)) _ _ (fun u=>[.str (aj u 0).toStr]) 1 (fun _=>rfl) []]
 ·simp [names]
 ·intro i hi hm l hl
  simp only [aA,aQ,toInt_int,aE,aB hi,au];rw [bh (by omega) (by simp at *; omega)]; simp
theorem VQ (ρ) (h:oA (nth ρ 0)) (w:Wf (nth ρ 0)):rH ρ=some [.bool (YJ (nth ρ 0))]:=by
 have hu:=h.u; have hw:=h.w; have ht:=h.t;simp only [rH,yP [nth ρ 0] h,xJ [nth ρ 0] h,tQ [nth ρ 0] h,an,aA];rw [bh (by omega) (by simp [dH]; omega),bh (by omega) (by simp [dH]; omega)];simp only [au];rw [aY _ (le_max (by simp [dH]; omega)) [] _ _ [.bool false] (fun u=>eN u.toStr)]
 ·simp [YJ,names,List.all_append,List.all_flatMap,Bool.and_assoc]
 ·intro i hi hm
  simp only [aA,toInt_int,aB hi,au];have hs:Wf (rd (names (aj (nth ρ 0) 0).toList++names (aj (nth ρ 0) 1).toList++names (aj (nth ρ 0) 2).toList) ↑i):=by
   simp only [List.mem_append] at hm;rcases hm with (hm|hm)|hm<;>exact YK (fun _ hq=>(w.aj _).mem hq) _ hm
  rw [xI _ hs.size]; grind [andThen,ay,aA,ak]
end
end Go.Sy.V
namespace Go.Sy.V
open PV Go.Sy
noncomputable section
def afP (n:Nat) (key:Nat→ByteArray):Bool:=scan (fun i=>cond (strLt (key (i - 1)) (key i)) none (some false)) true (n - 1) 1
def DY (L:List PV) (key:PV→ByteArray):Bool:=afP L.length fun i=>key (rd L i)
theorem eV {i n:Nat} (h1:1≤i) (hi:i<n) (hn:n≤aN):IntKind.i64.wrap ((i:Int) - 1)=((i - 1:Nat):Int):=by
 rw [wrap_i64 (by omega) (by simp only [aN] at hn; omega)]; omega
theorem B_ {R:Type} (L:List PV) (hn:L.length≤aN) (B:List PV→Option (List PV ⊕ (List PV ⊕ R))) (key:PV→ByteArray) (k:List PV→Option R)
  (hB: ∀ i:Nat,i<L.length→1≤i→B [.int i]=some (cond (strLt (key (rd L (i - 1:Nat))) (key (rd L i))) (.inl [.int (IntKind.i64.wrap (i+1))]) (.inr (.inl [.bool false])))):
  aq (iter (fun ρ=>cond (aK (nth ρ 0).toInt (L.length:Int)) (B ρ) (ay (some (.inl [.bool true])))) [.int 1]) k=k [.bool (DY L key)]:=by
 rw [Aw L.length hn [] B _ (fun i=>(cond (strLt (key (rd L (i - 1:Nat))) (key (rd L i))) none (some false)).map fun b=> .inl [.bool b]) (fun i h h1=>by rw [hB i h h1]; cases strLt _ _<;>rfl)];rw [yO,xH (fun b=>(.inl [.bool b]:List PV ⊕ R))]; rfl
theorem Lw (L:List PV):names L=L.map fun u=> .str (aj u 0).toStr:=by
 induction L with
 |nil=>rfl
 |cons a l ih=>simp only [names,List.flatMap_cons,List.map_cons] at *; rw [ih]; rfl
theorem SC (L:List PV):DY (names L) (fun x=>x.toStr)=DY L fun x=>(aj x 0).toStr:=by
 simp only [DY,afP,dH];have hr: ∀ i,i<L.length→rd (names L) i= .str (aj (rd L i) 0).toStr:=by
  intro i hi;rw [Lw]; simp [rd,hi]
 apply Il;intro j h1 h2;rw [hr j (by omega),hr (j - 1) (by omega)]; rfl
theorem FL (l:List PV) (h:l.length≤aN):gX [.list l]=some [.bool (!DY l fun x=>x.toStr)]:=by
 simp only [gX,aA,aE];rw [B_ l h _ (fun x=>x.toStr)]
 ·simp
 ·intro i hi h1
  simp only [aA,toInt_int,aB hi,au,iz,an,aS,eV h1 hi h,aB (show i - 1<l.length by omega)]
  grind [aq,ay,aA,ak,aK,bq,cI,bE]
theorem fC (l:List PV) (h:l.length≤aN):cB [.list l]=some [.bool (DY l fun x=>x.toStr)]:=by
 simp only [cB,aA,aE];rw [Aw l.length h [] _ _ (fun i=>(cond (strLt ((rd l (i - 1:Nat)).toStr) ((rd l i).toStr)) none (some false)).map fun b=>[PV.bool b])]
 ·rw [yO,xH (fun b=>[PV.bool b])]; rfl
 ·intro i hi h1
  simp only [aA,toInt_int,aB hi,au,iz,an,aS,eV h1 hi h,aB (show i - 1<l.length by omega)]
  grind [aq,ay,aA,ak,aK,bq,cI,bE]
def y6 (L:List PV):Bool:=DY L fun x=>x.toStr
def FM (r:PV):Bool:=(DY (aj r 0).toList (fun x=>(aj x 0).toStr)&&(DY (aj r 1).toList (fun x=>(aj x 0).toStr)&&DY (aj r 2).toList (fun x=>(aj x 0).toStr)))
 &&((aj r 0).toList.all (fun u=>y6 (aj u 16).toList&&(y6 (aj u 17).toList&&y6 (aj u 18).toList))&&(aj r 2).toList.all (fun t=>y6 (aj t 1).toList))
theorem VR {r:PV} (w:Wf r): ∀ p∈sM r,p.toList.length≤aN:=by
 intro p hp;simp only [sM,List.mem_append,List.mem_flatMap,List.mem_cons,List.not_mem_nil,or_false] at hp;rcases hp with ⟨u,hu,rfl|rfl|rfl⟩|⟨u,hu,rfl⟩<;>simp [Wf.len,Wf.aj,(w.aj _).mem hu]
theorem J2 (ρ) (h:oA (nth ρ 0)) (w:Wf (nth ρ 0)):jx ρ=some [.bool (FM (nth ρ 0))]:=by
 have hu:=h.u; have hw:=h.w; have ht:=h.t;simp only [jx,EY [nth ρ 0] h,an,aA,aE];rw [B_ _ (le_max (by omega)) _ (fun x=>(aj x 0).toStr)]
 ·rw [B_ _ (le_max (by omega)) _ (fun x=>(aj x 0).toStr)]
  ·rw [B_ _ (le_max (by omega)) _ (fun x=>(aj x 0).toStr)]
   ·rw [B6 (sM (nth ρ 0)) (le_max (Nat.le_trans (Ip h) (by omega))) _ (fun x=> !y6 x.toList) _ (some [.bool false]) (some [.bool true]) _ (by intro i; simp [bE]) (by simp [bE])]
    ·simp [FM,sM,List.any_flatMap,List.any_append,List.all_eq_not_any_not]
    ·intro i hi hm
     simp only [aA,toInt_int,aB hi,au];rw [FL _ (VR w _ hm)]
     grind [aq,ay,andThen,aA,ak,aK,bq,cI,bE,y6]
   ·intro i hi h1
    simp only [aA,toInt_int,aB hi,au,bG,an,aS,eV h1 hi (le_max (by omega)),aB (show i - 1<(aj (nth ρ 0) 2).toList.length by omega)]
    grind [aq,ay,andThen,aA,ak,aK,bq,cI,bE]
  ·intro i hi h1
   simp only [aA,toInt_int,aB hi,au,b7,an,aS,eV h1 hi (le_max (by omega)),aB (show i - 1<(aj (nth ρ 0) 1).toList.length by omega)]
   grind [aq,ay,andThen,aA,ak,aK,bq,cI,bE]
 ·intro i hi h1
  simp only [aA,toInt_int,aB hi,au,aH,an,aS,eV h1 hi (le_max (by omega)),aB (show i - 1<(aj (nth ρ 0) 0).toList.length by omega)]
  grind [aq,ay,andThen,aA,ak,aK,bq,cI,bE]
theorem Qw (ρ) (h:oA (nth ρ 0)) (w:Wf (nth ρ 0)):nJ ρ=some [.bool (FM (nth ρ 0))]:=by
 have hu:=h.u; have hw:=h.w; have ht:=h.t;have hl: ∀ k j i,i<(aj (nth ρ 0) k).toList.length→(aj (rd (aj (nth ρ 0) k).toList i) j).toList.length≤aN:=fun k j i hi=>(((w.aj k).rd i).aj j).len
 simp only [nJ,yP [nth ρ 0] h,xJ [nth ρ 0] h,tQ [nth ρ 0] h,an,aA];rw [fC _ (le_max (by simp [dH]; omega)),fC _ (le_max (by simp [dH]; omega)),fC _ (le_max (by simp [dH]; omega))];simp only [SC,an,aA,ak,gN,mh,gO,je,fA,aR,Bool.cond_false_right];rw [B8 _ (le_max (by omega)) _ _ (fun u=>y6 (aj u 16).toList&&(y6 (aj u 17).toList&&y6 (aj u 18).toList))]
 ·simp only [aA,ak]
  rw [B8 _ (le_max (by omega)) _ _ (fun t=>y6 (aj t 1).toList)]
  ·simp [FM,Bool.and_assoc]
  ·intro i hi hm b
   simp only [aA,aQ,toInt_int,aB hi,au];rw [fC _ (hl 2 1 i hi)]
   grind [aq,ay,andThen,aA,ak,y6]
 ·intro i hi hm b
  simp only [aA,aQ,toInt_int,aB hi,au];rw [fC _ (hl 0 16 i hi),fC _ (hl 0 17 i hi),fC _ (hl 0 18 i hi)]
  grind [aq,ay,andThen,aA,ak,y6]
end
end Go.Sy.V
namespace Go.Sy.V
open PV Go.Sy
noncomputable section
def kX (x:PV):Bool:=mB x.toInt 0 100000
def YL (w:PV):Bool:=mB (aj w 1).toInt 0 8192&&(kX (aj w 2)&&(kX (aj w 3)&&(mB (aj w 4).toInt 0 512&&mB (aj w 5).toInt 0 1024)))
def YM (t:PV):Bool:=kX (aj t 2)&&(kX (aj t 3)&&(kX (aj t 4)&&(kX (aj t 7)&&mB (aj t 6).toInt 1 6)))
def Iq (r:PV):Bool:=(aj r 0).toList.all Ns&&((aj r 1).toList.all YL&&(aj r 2).toList.all YM)
theorem J3 (ρ) (h:oA (nth ρ 0)):jw ρ=some [.bool (Iq (nth ρ 0))]:=by
 have hu:=h.u; have hw:=h.w; have ht:=h.t;simp only [jw];rw [aY _ (le_max (by omega)) [] _ _ [.bool false] Ns]
 ·rw [aY _ (le_max (by omega)) [] _ _ [.bool false] YL]
  ·rw [aY _ (le_max (by omega)) [] _ _ [.bool false] YM]
   ·simp [Iq]
   ·intro i hi hm
    simp only [aA,toInt_int,aB hi,au];rw [EX _ (by simp [le_max])];simp only [aA,aE,List.all_cons,List.all_nil,toInt_int,an,ak,Qt,aQ,bJ,YM,kX]
    grind [aq,ay,andThen,aA,ak]
  ·intro i hi hm
   simp only [aA,toInt_int,aB hi,au];rw [EX _ (by simp [le_max])];simp only [aA,aE,List.all_cons,List.all_nil,toInt_int,an,ak,Qt,aQ,bJ,YL,kX]
   grind [aq,ay,andThen,aA,ak]
 ·intro i hi hm
  simp only [aA,toInt_int,aB hi,au,B9,an,ak]
  grind [aq,ay,andThen,aA,ak]
theorem Qx (ρ) (h:oA (nth ρ 0)):nI ρ=some [.bool (Iq (nth ρ 0))]:=by
 have hu:=h.u; have hw:=h.w; have ht:=h.t;simp only [nI];rw [B8 _ (le_max (by omega)) _ _ Ns]
 ·simp only [aA,ak]
  rw [B8 _ (le_max (by omega)) _ _ YL]
  ·simp only [aA,ak]
   rw [B8 _ (le_max (by omega)) _ _ YM]
   ·simp [Iq,Bool.and_assoc]
   ·intro i hi hm b
    simp only [aA,aQ,toInt_int,aB hi,au,Qu,Im,an,ak,bJ,YM,kX]
    grind [aq,ay,andThen,aA,ak]
  ·intro i hi hm b
   simp only [aA,aQ,toInt_int,aB hi,au,Qu,Im,an,ak,bJ,YL,kX]
   grind [aq,ay,andThen,aA,ak]
 ·intro i hi hm b
  simp only [aA,aQ,toInt_int,aB hi,au,SA,an,ak]
  grind [aq,ay,andThen,aA,ak]
def mE (s:ByteArray) (p:PV):Bool:=aM (aj p 0).toStr s
theorem qt (s t:ByteArray):aM s t=aM t s:=by simp only [aM,decide_eq_decide]; exact eq_comm
theorem dw {s t:ByteArray}:aM s t=true↔s=t:=by
 simp only [aM,decide_eq_true_eq];exact ⟨fun h=>by cases s; cases t; simpa [Array.toList_inj] using h,fun h=>by rw [h]⟩
def Ca (u:PV):PV:= .agg [.str (aj u 0).toStr, .bool (aj u 1).toBool, .bool (aj u 2).toBool, .int (aj u 3).toInt, .int (aj u 4).toInt, .int (aj u 5).toInt, .int (aj u 6).toInt, .int (aj u 7).toInt, .int (aj u 8).toInt, .int (aj u 9).toInt, .int (aj u 10).toInt, .int (aj u 11).toInt, .str (aj u 12).toStr, .int (aj u 13).toInt, .int (aj u 14).toInt, .int (aj u 15).toInt, .list (aj u 16).toList, .list (aj u 17).toList, .list (aj u 18).toList]
def afQ (u:PV):PV:= .agg [.str (aj u 0).toStr, .int (aj u 1).toInt, .int (aj u 2).toInt, .int (aj u 3).toInt, .int (aj u 4).toInt, .int (aj u 5).toInt]
def afR (u:PV):PV:= .agg [.str (aj u 0).toStr, .list (aj u 1).toList, .int (aj u 2).toInt, .int (aj u 3).toInt, .int (aj u 4).toInt, .str (aj u 5).toStr, .int (aj u 6).toInt, .int (aj u 7).toInt]
def uh (L:List PV) (s:ByteArray):PV:=(L.find? (mE s)).getD .zero
def has (L:List PV) (s:ByteArray):Bool:=(L.find? (mE s)).isSome
theorem mo (l:List PV) (h:dO 16 l.length=true):cj [.list l]=some l:=by
 simp only [cj,aA,aE];cases l with
 |nil=>simp only [HJ,cond_true,cond_false,List.length_nil,Nat.add_zero,bh (b:=16) (n:=0) (by omega) (by omega),au,List.append_nil,Ai]
 |cons a l=>simp only [HJ,cond_false,List.length_nil,Nat.zero_add,h,au,List.nil_append]
theorem Lx (u:PV) (h1:dO 16 (aj u 16).toList.length=true) (h2:dO 16 (aj u 17).toList.length=true) (h3:dO 16 (aj u 18).toList.length=true):gW [u]=some [Ca u]:=by
 simp only [gW,aA];rw [mo _ h1,mo _ h2,mo _ h3]; rfl
def Rx (r:PV):Prop:=(∀ u∈(aj r 0).toList,(aj u 16).toList.length≤4∧(aj u 17).toList.length≤4∧(aj u 18).toList.length≤4)∧ ∀ t∈(aj r 2).toList,(aj t 1).toList.length≤4
theorem SD {r:PV} (h:Io r=true):Rx r:=by
 simp only [Io,Bool.and_eq_true,List.all_eq_true,big,bq,Bool.not_eq_true',Bool.or_eq_false_iff,decide_eq_false_iff_not] at h;exact ⟨fun u hu=>by have:=h.2.1 u hu; omega,fun u hu=>by have:=h.2.2 u hu; omega⟩
theorem Gw {L:List PV} {s:ByteArray} {P:PV→Prop} (h0:P .zero) (h: ∀ u∈L,P u):P (uh L s):=by
 unfold uh;cases e:L.find? (mE s) with
 |none=>exact h0
 |some u=>exact h u (List.mem_of_find?_eq_some e)
theorem jR (r:PV) (s:ByteArray) (h:oA r) (hl:Rx r):dL [r, .str s]=some [Ca (uh (aj r 0).toList s), .bool (has (aj r 0).toList s)]:=by
 have hu:=h.u;simp only [dL,aA,aQ,aS];rw [fV _ (le_max (by omega)) _ _ _ (fun u=> .inl [.bool true, .str (aj u 0).toStr, .bool (aj u 1).toBool, .bool (aj u 2).toBool, .int (aj u 3).toInt, .int (aj u 4).toInt, .int (aj u 5).toInt, .int (aj u 6).toInt, .int (aj u 7).toInt, .int (aj u 8).toInt, .int (aj u 9).toInt, .int (aj u 10).toInt, .int (aj u 11).toInt, .str (aj u 12).toStr, .int (aj u 13).toInt, .int (aj u 14).toInt, .int (aj u 15).toInt, .list (aj u 16).toList, .list (aj u 17).toList, .list (aj u 18).toList]) (mE s)]
 ·have hm:=Gw (L:=(aj r 0).toList) (s:=s) (P:=fun u=>(aj u 16).toList.length≤4∧(aj u 17).toList.length≤4∧(aj u 18).toList.length≤4) (by decide) hl.1
  revert hm
  unfold uh has;cases e:(aj r 0).toList.find? (mE s) with
  |none=>
   intro _;simp only [aR,aA,aQ,bJ,ga,kW,mH,oh,tM,tN,tO,mW,mj,mX,mY,mZ,m5,m6,m7,m8,m9,aS,ak,toInt_int,aE];rw [Lx _ (bh (by omega) (by simp)) (bh (by omega) (by simp)) (bh (by omega) (by simp))];rfl
  |some u=>
   intro hm;simp only [Option.getD_some] at hm;simp only [aR,aA,aQ,bJ,ga,kW,mH,oh,tM,tN,tO,mW,mj,mX,mY,mZ,m5,m6,m7,m8,m9,aS,ak,toInt_int,aE];rw [Lx _ (bh (by omega) (by simp; omega)) (bh (by omega) (by simp; omega)) (bh (by omega) (by simp; omega))];simp [Ca]
 ·intro i hi hm
  simp only [aA,toInt_int,aB hi,au,aH,an,aS,mE,aA,aQ,bJ,ga,kW,mH,oh,tM,tN,tO,mW,mj,mX,mY,mZ,m5,m6,m7,m8,m9,aS,ak,toInt_int,aE,dY];cases aM _ _<;>rfl
theorem Nu (r:PV) (s:ByteArray) (h:oA r):lW [r, .str s]=some [afQ (uh (aj r 1).toList s), .bool (has (aj r 1).toList s)]:=by
 have hu:=h.w;simp only [lW,aA,aQ,aS];rw [fV _ (le_max (by omega)) _ _ _ (fun u=> .inl [.bool true, .str (aj u 0).toStr, .int (aj u 1).toInt, .int (aj u 2).toInt, .int (aj u 3).toInt, .int (aj u 4).toInt, .int (aj u 5).toInt]) (mE s)]
 ·unfold uh has
  cases e:(aj r 1).toList.find? (mE s) with
  |none=>rfl
  |some u=>rfl
 ·intro i hi hm
  simp only [aB hi,au,b7,an,mE,aA,aQ,bJ,ga,kW,mH,oh,tM,tN,tO,mW,mj,mX,mY,mZ,m5,m6,m7,m8,m9,aS,ak,toInt_int,aE,dY];cases aM _ _<;>rfl
theorem Ir (r:PV) (s:ByteArray) (h:oA r) (hl:Rx r):lP [r, .str s]=some [afR (uh (aj r 2).toList s), .bool (has (aj r 2).toList s)]:=by
 have hu:=h.t;simp only [lP,aA,aQ,aS];rw [fV _ (le_max (by omega)) _ _ _ (fun u=> .inl [.bool true, .str (aj u 0).toStr, .list (aj u 1).toList, .int (aj u 2).toInt, .int (aj u 3).toInt, .int (aj u 4).toInt, .str (aj u 5).toStr, .int (aj u 6).toInt, .int (aj u 7).toInt]) (mE s)]
 ·have hm:=Gw (L:=(aj r 2).toList) (s:=s) (P:=fun u=>(aj u 1).toList.length≤4) (by decide) hl.2
  revert hm
  unfold uh has;cases e:(aj r 2).toList.find? (mE s) with
  |none=>
   intro _;simp only [aR,aA,aQ,bJ,ga,kW,mH,oh,tM,tN,tO,mW,mj,mX,mY,mZ,m5,m6,m7,m8,m9,aS,ak,toInt_int,aE];rw [mo _ (bh (by omega) (by simp))];rfl
  |some u=>
   intro hm;simp only [Option.getD_some] at hm;simp only [aR,aA,aQ,bJ,ga,kW,mH,oh,tM,tN,tO,mW,mj,mX,mY,mZ,m5,m6,m7,m8,m9,aS,ak,toInt_int,aE];rw [mo _ (bh (by omega) (by omega))];rfl
 ·intro i hi hm
  simp only [aB hi,au,bG,an,mE,aA,aQ,bJ,ga,kW,mH,oh,tM,tN,tO,mW,mj,mX,mY,mZ,m5,m6,m7,m8,m9,aS,ak,toInt_int,aE,dY];cases aM _ _<;>rfl
def YN (L:List PV) (s:ByteArray) (z:PV):PV:=(L.find? (mE s)).getD z
def zU:PV:= .agg [.str (ByteArray.mk #[]), .bool false, .bool false, .int 0, .int 0, .int 0, .int 0, .int 0, .int 0, .int 0, .int 0, .int 0, .str (ByteArray.mk #[]), .int 0, .int 0, .int 0, .list [], .list [], .list []]
def zT:PV:= .agg [.str (ByteArray.mk #[]), .list [], .int 0, .int 0, .int 0, .str (ByteArray.mk #[]), .int 0, .int 0]
def zW:PV:= .agg [.str (ByteArray.mk #[]), .int 0, .int 0, .int 0, .int 0, .int 0]
theorem jf (r:PV) (s:ByteArray) (h:oA r):dG [r, .str s]=some [YN (aj r 0).toList s zU, .bool (has (aj r 0).toList s)]:=by
 have hu:=h.u;simp only [dG,aA,aQ,aS];rw [fV _ (le_max (by omega)) _ _ _ (fun u=>[u, .bool true]) (mE s)]
 ·unfold YN has zU
  cases e:(aj r 0).toList.find? (mE s) with
  |none=>rfl
  |some u=>rfl
 ·intro i hi hm
  simp only [aB hi,au,an,mE,aA,aQ,bJ,ga,kW,mH,oh,tM,tN,tO,mW,mj,mX,mY,mZ,m5,m6,m7,m8,m9,aS,ak,toInt_int,aE,dY];cases aM _ _<;>rfl
theorem SE (r:PV) (s:ByteArray) (h:oA r):pK [r, .str s]=some [YN (aj r 1).toList s zW, .bool (has (aj r 1).toList s)]:=by
 have hu:=h.w;simp only [pK,aA,aQ,aS];rw [fV _ (le_max (by omega)) _ _ _ (fun u=>[u, .bool true]) (mE s)]
 ·unfold YN has zW
  cases e:(aj r 1).toList.find? (mE s) with
  |none=>rfl
  |some u=>rfl
 ·intro i hi hm
  simp only [aB hi,au,an,mE,aA,aQ,bJ,ga,kW,mH,oh,tM,tN,tO,mW,mj,mX,mY,mZ,m5,m6,m7,m8,m9,aS,ak,toInt_int,aE,dY];cases aM _ _<;>rfl
theorem Is (r:PV) (s:ByteArray) (h:oA r):mV [r, .str s]=some [YN (aj r 2).toList s zT, .bool (has (aj r 2).toList s)]:=by
 have hu:=h.t;simp only [mV,aA,aQ,aS];rw [fV _ (le_max (by omega)) _ _ _ (fun u=>[u, .bool true]) (mE s)]
 ·unfold YN has zT
  cases e:(aj r 2).toList.find? (mE s) with
  |none=>rfl
  |some u=>rfl
 ·intro i hi hm
  simp only [aB hi,au,an,mE,aA,aQ,bJ,ga,kW,mH,oh,tM,tN,tO,mW,mj,mX,mY,mZ,m5,m6,m7,m8,m9,aS,ak,toInt_int,aE,dY];cases aM _ _<;>rfl
end
end Go.Sy.V
namespace Go.Sy.V
open PV Go.Sy
noncomputable section
def ng (u:PV):List PV:=[.str (aj u 0).toStr, .bool (aj u 1).toBool, .bool (aj u 2).toBool, .int (aj u 3).toInt, .int (aj u 4).toInt, .int (aj u 5).toInt, .int (aj u 6).toInt, .int (aj u 7).toInt, .int (aj u 8).toInt, .int (aj u 9).toInt, .int (aj u 10).toInt, .int (aj u 11).toInt, .str (aj u 12).toStr, .int (aj u 13).toInt, .int (aj u 14).toInt, .int (aj u 15).toInt, .list (aj u 16).toList, .list (aj u 17).toList, .list (aj u 18).toList]
theorem kY {R:Type} (L:List PV) (s:ByteArray) (hL:L.length≤aN):iter (R:=List PV ⊕ R) (fun ρ=>cond (aK (nth ρ 0).toInt (L.length:Int)) (aC (bp (nth ρ 0).toInt L.length) (andThen (aH [rd L (nth ρ 0).toInt]) fun r=>cond (aM (nth r 0).toStr s) (ay (some (.inl [.bool true, .str (aj (rd L (nth ρ 0).toInt) 0).toStr, .bool (aj (rd L (nth ρ 0).toInt) 1).toBool, .bool (aj (rd L (nth ρ 0).toInt) 2).toBool, .int (aj (rd L (nth ρ 0).toInt) 3).toInt, .int (aj (rd L (nth ρ 0).toInt) 4).toInt, .int (aj (rd L (nth ρ 0).toInt) 5).toInt, .int (aj (rd L (nth ρ 0).toInt) 6).toInt, .int (aj (rd L (nth ρ 0).toInt) 7).toInt, .int (aj (rd L (nth ρ 0).toInt) 8).toInt, .int (aj (rd L (nth ρ 0).toInt) 9).toInt, .int (aj (rd L (nth ρ 0).toInt) 10).toInt, .int (aj (rd L (nth ρ 0).toInt) 11).toInt, .str (aj (rd L (nth ρ 0).toInt) 12).toStr, .int (aj (rd L (nth ρ 0).toInt) 13).toInt, .int (aj (rd L (nth ρ 0).toInt) 14).toInt, .int (aj (rd L (nth ρ 0).toInt) 15).toInt, .list (aj (rd L (nth ρ 0).toInt) 16).toList, .list (aj (rd L (nth ρ 0).toInt) 17).toList, .list (aj (rd L (nth ρ 0).toInt) 18).toList]))) (some (.inl [.int (IntKind.i64.wrap ((nth ρ 0).toInt+1)), .str (nth ρ 1).toStr, .bool (nth ρ 2).toBool, .bool (nth ρ 3).toBool, .int (nth ρ 4).toInt, .int (nth ρ 5).toInt, .int (nth ρ 6).toInt, .int (nth ρ 7).toInt, .int (nth ρ 8).toInt, .int (nth ρ 9).toInt, .int (nth ρ 10).toInt, .int (nth ρ 11).toInt, .int (nth ρ 12).toInt, .str (nth ρ 13).toStr, .int (nth ρ 14).toInt, .int (nth ρ 15).toInt, .int (nth ρ 16).toInt, .list (nth ρ 17).toList, .list (nth ρ 18).toList, .list (nth ρ 19).toList])))) (ay (some (.inl [.bool false, .str (ByteArray.mk #[]), .bool false, .bool false, .int 0, .int 0, .int 0, .int 0, .int 0, .int 0, .int 0, .int 0, .int 0, .str (ByteArray.mk #[]), .int 0, .int 0, .int 0, .list [], .list [], .list []])))) [.int 0, .str (ByteArray.mk #[]), .bool false, .bool false, .int 0, .int 0, .int 0, .int 0, .int 0, .int 0, .int 0, .int 0, .int 0, .str (ByteArray.mk #[]), .int 0, .int 0, .int 0, .list [], .list [], .list []]=some (.inl (.bool (has L s)::ng (uh L s))):=by
 rw [fV L hL _ _ _ (fun u=> .inl (.bool true::ng u)) (mE s)]
 ·unfold uh has
  cases e:L.find? (mE s) with
  |none=>rfl
  |some u=>rfl
 ·intro i hi hm
  simp only [aB hi,au,aH,an,mE,aA,aQ,bJ,ga,kW,mH,oh,tM,tN,tO,mW,mj,mX,mY,mZ,m5,m6,m7,m8,m9,aS,ak,toInt_int,aE,dY,ng];cases aM _ _<;>rfl
def vr (u:PV):List PV:=[.str (aj u 0).toStr, .int (aj u 1).toInt, .int (aj u 2).toInt, .int (aj u 3).toInt, .int (aj u 4).toInt, .int (aj u 5).toInt]
theorem Qy {R:Type} (L:List PV) (s:ByteArray) (hL:L.length≤aN):iter (R:=List PV ⊕ R) (fun ρ=>cond (aK (nth ρ 0).toInt (L.length:Int)) (aC (bp (nth ρ 0).toInt L.length) (andThen (b7 [rd L (nth ρ 0).toInt]) fun r=>cond (aM (nth r 0).toStr s) (ay (some (.inl [.bool true, .str (aj (rd L (nth ρ 0).toInt) 0).toStr, .int (aj (rd L (nth ρ 0).toInt) 1).toInt, .int (aj (rd L (nth ρ 0).toInt) 2).toInt, .int (aj (rd L (nth ρ 0).toInt) 3).toInt, .int (aj (rd L (nth ρ 0).toInt) 4).toInt, .int (aj (rd L (nth ρ 0).toInt) 5).toInt]))) (some (.inl [.int (IntKind.i64.wrap ((nth ρ 0).toInt+1)), .str (nth ρ 1).toStr, .int (nth ρ 2).toInt, .int (nth ρ 3).toInt, .int (nth ρ 4).toInt, .int (nth ρ 5).toInt, .int (nth ρ 6).toInt])))) (ay (some (.inl [.bool false, .str (ByteArray.mk #[]), .int 0, .int 0, .int 0, .int 0, .int 0])))) [.int 0, .str (ByteArray.mk #[]), .int 0, .int 0, .int 0, .int 0, .int 0]=some (.inl (.bool (has L s)::vr (uh L s))):=by
 rw [fV L hL _ _ _ (fun u=> .inl (.bool true::vr u)) (mE s)]
 ·unfold uh has
  cases e:L.find? (mE s) with
  |none=>rfl
  |some u=>rfl
 ·intro i hi hm
  simp only [aB hi,au,b7,an,mE,aA,aQ,bJ,ga,kW,mH,oh,tM,tN,tO,mW,mj,mX,mY,mZ,m5,m6,m7,m8,m9,aS,ak,toInt_int,aE,dY,vr];cases aM _ _<;>rfl
def Ax (u:PV):List PV:=[.str (aj u 0).toStr, .list (aj u 1).toList, .int (aj u 2).toInt, .int (aj u 3).toInt, .int (aj u 4).toInt, .str (aj u 5).toStr, .int (aj u 6).toInt, .int (aj u 7).toInt]
theorem DZ {R:Type} (L:List PV) (s:ByteArray) (hL:L.length≤aN):iter (R:=List PV ⊕ R) (fun ρ=>cond (aK (nth ρ 0).toInt (L.length:Int)) (aC (bp (nth ρ 0).toInt L.length) (andThen (bG [rd L (nth ρ 0).toInt]) fun r=>cond (aM (nth r 0).toStr s) (ay (some (.inl [.bool true, .str (aj (rd L (nth ρ 0).toInt) 0).toStr, .list (aj (rd L (nth ρ 0).toInt) 1).toList, .int (aj (rd L (nth ρ 0).toInt) 2).toInt, .int (aj (rd L (nth ρ 0).toInt) 3).toInt, .int (aj (rd L (nth ρ 0).toInt) 4).toInt, .str (aj (rd L (nth ρ 0).toInt) 5).toStr, .int (aj (rd L (nth ρ 0).toInt) 6).toInt, .int (aj (rd L (nth ρ 0).toInt) 7).toInt]))) (some (.inl [.int (IntKind.i64.wrap ((nth ρ 0).toInt+1)), .str (nth ρ 1).toStr, .list (nth ρ 2).toList, .int (nth ρ 3).toInt, .int (nth ρ 4).toInt, .int (nth ρ 5).toInt, .str (nth ρ 6).toStr, .int (nth ρ 7).toInt, .int (nth ρ 8).toInt])))) (ay (some (.inl [.bool false, .str (ByteArray.mk #[]), .list [], .int 0, .int 0, .int 0, .str (ByteArray.mk #[]), .int 0, .int 0])))) [.int 0, .str (ByteArray.mk #[]), .list [], .int 0, .int 0, .int 0, .str (ByteArray.mk #[]), .int 0, .int 0]=some (.inl (.bool (has L s)::Ax (uh L s))):=by
 rw [fV L hL _ _ _ (fun u=> .inl (.bool true::Ax u)) (mE s)]
 ·unfold uh has
  cases e:L.find? (mE s) with
  |none=>rfl
  |some u=>rfl
 ·intro i hi hm
  simp only [aB hi,au,bG,an,mE,aA,aQ,bJ,ga,kW,mH,oh,tM,tN,tO,mW,mj,mX,mY,mZ,m5,m6,m7,m8,m9,aS,ak,toInt_int,aE,dY,Ax];cases aM _ _<;>rfl
theorem Uv (L:List PV) (s):has L s=L.any (mE s):=by
 unfold has; induction L with
 |nil=>rfl
 |cons a l ih=>simp only [List.find?_cons,List.any_cons]; cases mE s a<;>simp [ih]
theorem Cb (l:List PV) (s:ByteArray) (h:l.length≤aN):kU [.list l, .str s]=some [.bool (l.any fun x=>aM x.toStr s)]:=by
 simp only [kU,aA,aQ,aE,aS];rw [aY l h [] _ _ [.bool true] (fun x=> !aM x.toStr s)]
 ·simp [List.any_eq_not_all_not]
 ·intro i hi hm
  simp only [aA,toInt_int,aB hi,au]
  grind [aq,ay,andThen,aA,ak]
theorem D0 (L:List PV) (s):((names L).any fun x=>aM x.toStr s)=has L s:=by
 rw [Uv]; simp [names,List.any_flatMap]; rfl
theorem Cc (l m:List PV) (h:l.length≤aN) (hm:m.length≤aN):kV [.list l, .list m]=some [.bool (l.all fun x=>m.any fun y=>aM y.toStr x.toStr)]:=by
 simp only [kV,aA,aQ,aE,aS];rw [aY l h [] _ _ [.bool false] (fun x=>m.any fun y=>aM y.toStr x.toStr)]
 ·simp
 ·intro i hi hi'
  simp only [aA,toInt_int,aB hi,au,Cb _ _ hm,an,ak]
  grind [aq,ay,andThen,aA,ak]
theorem dx {R:Type} (L:List PV) (hn:L.length≤aN) (B:List PV→Option (List PV ⊕ (List PV ⊕ R))) (bad:PV→Bool) (k:List PV→Option R)
  (hB: ∀ i:Nat,i<L.length→rd L i∈L→B [.int i]=some (cond (bad (rd L i)) (.inr (.inl [.int i])) (.inl [.int (IntKind.i64.wrap (i+1))])))
  (h1: ∀ i:Nat,k [.int i]=k [.int 0]):
  aq (iter (fun ρ=>cond (aK (nth ρ 0).toInt (L.length:Int)) (B ρ) (ay (some (.inl [.int (-1)])))) [.int 0]) k=cond (L.any bad) (k [.int 0]) (k [.int (-1)]):=B6 L hn B bad k _ _ hB h1 rfl
def rS (r:PV) (x:PV):Bool:=has (aj r 0).toList x.toStr||has (aj r 2).toList x.toStr
def VT (r u:PV):Bool:=(aM (aj u 12).toStr (ByteArray.mk #[])||has (aj r 1).toList (aj u 12).toStr)&&((aj u 16).toList.all (rS r)&&((aj u 17).toList.all (fun x=>has (aj r 0).toList x.toStr)&&(aj u 18).toList.all (fun x=>has (aj r 2).toList x.toStr)))
def YO (r t:PV):Bool:=(aj t 1).toList.all (rS r)&&has (aj r 0).toList (aj t 5).toStr
def It (r:PV):Bool:=(aj r 0).toList.all (VT r)&&(aj r 2).toList.all (YO r)
theorem VU (ρ) (h:oA (nth ρ 0)) (w:Wf (nth ρ 0)):rG ρ=some [.bool (It (nth ρ 0))]:=by
 have hu:=h.u; have hw:=h.w; have ht:=h.t;have hl: ∀ k j i,i<(aj (nth ρ 0) k).toList.length→(aj (rd (aj (nth ρ 0) k).toList i) j).toList.length≤aN:=fun k j i hi=>(((w.aj k).rd i).aj j).len
 have n0:(names (aj (nth ρ 0) 0).toList).length≤aN:=le_max (by simp [dH]; omega);have n1:(names (aj (nth ρ 0) 1).toList).length≤aN:=le_max (by simp [dH]; omega);have n2:(names (aj (nth ρ 0) 2).toList).length≤aN:=le_max (by simp [dH]; omega);have n3:(names (aj (nth ρ 0) 0).toList++names (aj (nth ρ 0) 2).toList).length≤aN:=le_max (by simp [dH]; omega);simp only [rG,yP [nth ρ 0] h,xJ [nth ρ 0] h,tQ [nth ρ 0] h,an,aA,List.nil_append,List.length_nil,Nat.zero_add];rw [bh (by omega) (by simp [dH]; omega),bh (by omega) (by simp [dH]; omega)];simp only [au];rw [aY _ (le_max (by omega)) [] _ _ [.bool false] (VT (nth ρ 0))]
 ·rw [aY _ (le_max (by omega)) [] _ _ [.bool false] (YO (nth ρ 0))]
  ·simp [It]
  ·intro i hi hm
   simp only [aA,toInt_int,aB hi,au];rw [Cc _ _ (hl 2 1 i hi) n3,Cb _ _ n0];simp only [an,aA,ak,List.any_append,D0];simp only [YO];rw [show rS (nth ρ 0)=fun x=>has (aj (nth ρ 0) 0).toList x.toStr||has (aj (nth ρ 0) 2).toList x.toStr from rfl]
   grind [aq,ay,andThen,aA,ak]
 ·intro i hi hm
  simp only [aA,toInt_int,aB hi,au];rw [Cc _ _ (hl 0 16 i hi) n3,Cc _ _ (hl 0 17 i hi) n0,Cc _ _ (hl 0 18 i hi) n2,Cb _ _ n1];simp only [an,aA,ak,List.any_append,D0];simp only [VT];rw [show rS (nth ρ 0)=fun x=>has (aj (nth ρ 0) 0).toList x.toStr||has (aj (nth ρ 0) 2).toList x.toStr from rfl]
  grind [aq,ay,andThen,aA,ak]
theorem D1 (ρ) (h:oA (nth ρ 0)) (w:Wf (nth ρ 0)):gw ρ=some [.bool (It (nth ρ 0))]:=by
 have hu:=h.u; have hw:=h.w; have ht:=h.t;have hl: ∀ k j i,i<(aj (nth ρ 0) k).toList.length→(aj (rd (aj (nth ρ 0) k).toList i) j).toList.length≤aN:=fun k j i hi=>(((w.aj k).rd i).aj j).len
 have l0:(aj (nth ρ 0) 0).toList.length≤aN:=(w.aj 0).len;have l1:(aj (nth ρ 0) 1).toList.length≤aN:=(w.aj 1).len;have l2:(aj (nth ρ 0) 2).toList.length≤aN:=(w.aj 2).len;simp only [gw];rw [aY _ l0 [] _ _ [.bool false] (VT (nth ρ 0))]
 ·rw [aY _ l2 [] _ _ [.bool false] (YO (nth ρ 0))]
  ·simp [It]
  ·intro i hi hm
   simp only [aA,toInt_int,aB hi,au];rw [dx _ (hl 2 1 i hi) _ (fun x=> !rS (nth ρ 0) x)]
   ·simp only [kY _ _ l0,aR,aA,ak,toInt_int]
    simp only [YO,List.all_eq_not_any_not]
    grind [aq,ay,andThen,aA,ak,bE]
   ·intro j hj hm'
    simp only [aA,toInt_int,aB hj,au,kY _ _ l0,DZ _ _ l2,aR,ak];simp only [rS]
    grind [aq,ay,andThen,aA,ak]
   ·intro j; simp [bE]
 ·intro i hi hm
  simp only [aA,toInt_int,aB hi,au,Qy _ _ l1,aR,ak];rw [dx _ (hl 0 16 i hi) _ (fun x=> !rS (nth ρ 0) x)]
  ·rw [dx _ (hl 0 17 i hi) _ (fun x=> !has (aj (nth ρ 0) 0).toList x.toStr)]
   ·rw [dx _ (hl 0 18 i hi) _ (fun x=> !has (aj (nth ρ 0) 2).toList x.toStr)]
    ·simp only [VT,List.all_eq_not_any_not]
     simp only [aA,toInt_int,show bE 0 0=true from rfl,show bE (-1) 0=false from rfl,Bool.not_true,Bool.not_false,cond_true,cond_false]
     grind [aq,ay,andThen,aA,ak,bE]
    ·intro j hj hm'
     simp only [aA,toInt_int,aB hj,au,DZ _ _ l2,aR,ak]
     grind [aq,ay,andThen,aA,ak]
    ·intro j; simp [bE]
   ·intro j hj hm'
    simp only [aA,toInt_int,aB hj,au,kY _ _ l0,aR,ak]
    grind [aq,ay,andThen,aA,ak]
   ·intro j; simp [bE]
  ·intro j hj hm'
   simp only [aA,toInt_int,aB hj,au,kY _ _ l0,DZ _ _ l2,aR,ak];simp only [rS]
   grind [aq,ay,andThen,aA,ak]
  ·intro j; simp [bE]
end
end Go.Sy.V
namespace Go.Sy.V
open PV Go.Sy
noncomputable section
def Ry (r x:PV):Bool:= !has (aj r 0).toList x.toStr||(aj (uh (aj r 0).toList x.toStr) 1).toBool
def YP (r u:PV):Bool:=(aj u 16).toList.all (Ry r)&&((aj u 17).toList.all (fun x=>Ry r x != (aj u 1).toBool)&&((aj u 1).toBool|| !bq ((aj u 18).toList.length:Int) 0))
def Nv (r:PV):Bool:=(aj r 0).toList.all (YP r)&&(aj r 2).toList.all fun t=>(aj t 1).toList.all (Ry r)
theorem Qz (ρ) (h:oA (nth ρ 0)) (w:Wf (nth ρ 0)):nG ρ=some [.bool (Nv (nth ρ 0))]:=by
 have hl: ∀ k j i,i<(aj (nth ρ 0) k).toList.length→(aj (rd (aj (nth ρ 0) k).toList i) j).toList.length≤aN:=fun k j i hi=>(((w.aj k).rd i).aj j).len
 have l0:(aj (nth ρ 0) 0).toList.length≤aN:=(w.aj 0).len;have l1:(aj (nth ρ 0) 1).toList.length≤aN:=(w.aj 1).len;have l2:(aj (nth ρ 0) 2).toList.length≤aN:=(w.aj 2).len;simp only [nG];rw [aY _ l0 [] _ _ [.bool false] (YP (nth ρ 0))]
 ·rw [aY _ l2 [] _ _ [.bool false] (fun t=>(aj t 1).toList.all (Ry (nth ρ 0)))]
  ·simp [Nv]
  ·intro i hi hm
   simp only [aA,toInt_int,aB hi,au];rw [dx _ (hl 2 1 i hi) _ (fun x=> !Ry (nth ρ 0) x)]
   ·simp only [List.all_eq_not_any_not,aA,toInt_int]
    grind [aq,ay,andThen,aA,ak,bE]
   ·intro j hj hm'
    simp only [aA,toInt_int,aB hj,au,kY _ _ l0,aR,ak,ng,bJ];simp only [Ry]
    grind [aq,ay,andThen,aA,ak]
   ·intro j; simp [bE]
 ·intro i hi hm
  simp only [aA,toInt_int,aB hi,au];rw [dx _ (hl 0 16 i hi) _ (fun x=> !Ry (nth ρ 0) x)]
  ·rw [dx _ (hl 0 17 i hi) _ (fun x=>Ry (nth ρ 0) x==(aj (rd (aj (nth ρ 0) 0).toList i) 1).toBool)]
   ·simp only [YP,List.all_eq_not_any_not,aA,toInt_int,bne,Bool.not_not,show bE 0 0=true from rfl,show bE (-1) 0=false from rfl,Bool.not_true,Bool.not_false,cond_true,cond_false]
    grind [aq,ay,andThen,aA,ak,bE]
   ·intro j hj hm'
    simp only [aA,toInt_int,aB hj,au,kY _ _ l0,aR,ak,ng,bJ,gN,mh,gO,je,fA,Ai];simp only [Ry]
    grind [aq,ay,andThen,aA,ak]
   ·intro j; simp [bE]
  ·intro j hj hm'
   simp only [aA,toInt_int,aB hj,au,kY _ _ l0,aR,ak,ng,bJ];simp only [Ry]
   grind [aq,ay,andThen,aA,ak]
  ·intro j; simp [bE]
theorem Iu (L:List PV) (s):(aj (YN L s zU) 1).toBool=(aj (uh L s) 1).toBool:=by
 unfold YN uh; cases L.find? (mE s)<;>rfl
theorem Iv (r:PV) (l:List PV) (h:oA r) (hl:l.length≤aN):lZ [r, .list l]=some [.bool (l.all (Ry r))]:=by
 simp only [lZ,aA,aQ,aE];rw [aY l hl [] _ _ [.bool false] (Ry r)]
 ·simp
 ·intro i hi hm
  simp only [aA,toInt_int,aB hi,au,jf r _ h,an,aQ,ak,Iu,Ry]
  grind [aq,ay,andThen,aA,ak]
theorem VW (ρ) (h:oA (nth ρ 0)) (w:Wf (nth ρ 0)) (hf:It (nth ρ 0)=true):rJ ρ=some [.bool (Nv (nth ρ 0))]:=by
 have hl: ∀ k j i,i<(aj (nth ρ 0) k).toList.length→(aj (rd (aj (nth ρ 0) k).toList i) j).toList.length≤aN:=fun k j i hi=>(((w.aj k).rd i).aj j).len
 have l0:(aj (nth ρ 0) 0).toList.length≤aN:=(w.aj 0).len;have l1:(aj (nth ρ 0) 1).toList.length≤aN:=(w.aj 1).len;have l2:(aj (nth ρ 0) 2).toList.length≤aN:=(w.aj 2).len;simp only [rJ];rw [aY _ l0 [] _ _ [.bool false] (YP (nth ρ 0))]
 ·rw [aY _ l2 [] _ _ [.bool false] (fun t=>(aj t 1).toList.all (Ry (nth ρ 0)))]
  ·simp [Nv]
  ·intro i hi hm
   simp only [aA,toInt_int,aB hi,au,Iv _ _ h (hl 2 1 i hi),an,ak]
   grind [aq,ay,andThen,aA,ak]
 ·intro i hi hm
  simp only [aA,toInt_int,aB hi,au,Iv _ _ h (hl 0 16 i hi),an,ak];have hr: ∀ x∈(aj (rd (aj (nth ρ 0) 0).toList i) 17).toList,has (aj (nth ρ 0) 0).toList x.toStr=true:=by
   simp only [It,Bool.and_eq_true,List.all_eq_true,VT] at hf;exact (hf.1 _ hm).2.2.1
  rw [aY _ (hl 0 17 i hi) [] _ _ (.inr [.bool false]) (fun x=>Ry (nth ρ 0) x != (aj (rd (aj (nth ρ 0) 0).toList i) 1).toBool)]
  ·simp only [YP]
   grind [aq,ay,andThen,aA,ak]
  ·intro j hj hm'
   simp only [aA,toInt_int,aB hj,au,jf _ _ h,an,aQ,ak,Iu,Ry,hr _ hm',Bool.not_true,Bool.false_or,bne]
   grind [aq,ay,andThen,aA,ak]
end
end Go.Sy.V
namespace Go.Sy.V
open PV Go.Sy
noncomputable section
theorem QA (x y:List UInt8):Sim.iF x y=true↔x<y:=by
 induction x generalizing y with
 |nil=>cases y with
  |nil=>simp [Sim.iF]
  |cons b y=>simp [Sim.iF]
 |cons a x ih=>
  cases y with
  |nil=>simp [Sim.iF]
  |cons b y=>
   rw [List.cons_lt_cons_iff, ←ih];simp only [Sim.iF];by_cases h:a<b
   ·have:Nat.blt a.toNat b.toNat=true:=by rw [Nat.blt_eq]; exact h
    simp [this,h]
   ·have h1:Nat.blt a.toNat b.toNat=false:=by
     cases e:Nat.blt a.toNat b.toNat with
     |false=>rfl
     |true=>rw [Nat.blt_eq] at e; exact (h e).elim
    by_cases h2:a=b
    ·subst h2; simp [h1]
    ·have h3:Nat.beq a.toNat b.toNat=false:=by
      cases e:Nat.beq a.toNat b.toNat with
      |false=>rfl
      |true=>exact (h2 (UInt8.toNat.inj (Nat.eq_of_beq_eq_true e))).elim
     simp [h1,h3,h,h2]
def lt (s t:ByteArray):Prop:=s.data.toList<t.data.toList
theorem D2 {s t:ByteArray}:strLt s t=true↔s.data.toList<t.data.toList:=QA _ _
theorem SF {s t:ByteArray} (h:s.data.toList=t.data.toList):s=t:=dw.1 (by simp [aM,h])
def fc (N:List ByteArray):List ByteArray:=((N.map fun s=>s.data.toList).mergeSort fun x y=>decide (x≤y)).map fun b=>⟨b.toArray⟩
theorem YQ (N:List ByteArray):BX (N.map .str)=(fc N).map .str:=by
 simp [BX,fc,List.map_map,Function.comp_def]
theorem yQ {N:List ByteArray} {s}:s∈fc N↔s∈N:=by
 simp only [fc,List.mem_map,List.mem_mergeSort];constructor
 ·rintro ⟨b,⟨t,ht,rfl⟩,rfl⟩
  have:(⟨t.data.toList.toArray⟩:ByteArray)=t:=SF (by simp);rw [this]; exact ht
 ·intro h
  exact ⟨_,⟨s,h,rfl⟩,SF (by simp)⟩
theorem Lz (N:List ByteArray):(fc N).length=N.length:=by simp [fc]
theorem Nw (N:List ByteArray):(fc N).Pairwise fun s t=>s.data.toList≤t.data.toList:=by
 simp only [fc,List.pairwise_map];have:=List.pairwise_mergeSort (le:=fun (x y:List UInt8)=>decide (x≤y)) (fun a b c h1 h2=>by simp only [decide_eq_true_eq] at *; exact List.le_trans h1 h2) (fun a b=>by simp only [Bool.or_eq_true,decide_eq_true_eq]; exact List.le_total a b) (N.map fun s=>s.data.toList);exact this.imp (fun h=>by simpa using h)
def em:ByteArray:=ByteArray.mk #[]
def EZ (p:ByteArray→Bool) (best s:ByteArray):ByteArray:=cond (p s&&(aM best em||strLt s best)) s best
def Nx (p:ByteArray→Bool) (l:List ByteArray) (b:ByteArray):Prop:=(b=em∧ ∀ s∈l,p s=false)∨(b∈l∧p b=true∧b≠em∧ ∀ s∈l,p s=true→b.data.toList≤s.data.toList)
theorem YR {p:ByteArray→Bool} {l:List ByteArray} {b s:ByteArray} (h:Nx p l b) (hs:s≠em):Nx p (l++[s]) (EZ p b s):=by
 unfold EZ;cases hp:p s with
 |false=>
  simp only [Bool.false_and,cond_false];rcases h with ⟨h1,h2⟩|⟨h1,h2,h3,h4⟩
  ·exact .inl ⟨h1,fun t ht=>by rcases List.mem_append.1 ht with ht|ht; exact h2 t ht; rw [List.mem_singleton.1 ht]; exact hp⟩
  ·exact .inr ⟨List.mem_append_left _ h1,h2,h3,fun t ht hpt=>by
    rcases List.mem_append.1 ht with ht|ht
    ·exact h4 t ht hpt
    ·rw [List.mem_singleton.1 ht,hp] at hpt; exact absurd hpt (by simp)⟩
 |true=>
  simp only [Bool.true_and];rcases h with ⟨h1,h2⟩|⟨h1,h2,h3,h4⟩
  ·have:aM b em=true:=dw.2 h1
   simp only [this,Bool.true_or,cond_true];exact .inr ⟨by simp,hp,hs,fun t ht hpt=>by
    rcases List.mem_append.1 ht with ht|ht
    ·rw [h2 t ht] at hpt; exact absurd hpt (by simp)
    ·rw [List.mem_singleton.1 ht]; exact List.le_refl _⟩
  ·have:aM b em=false:=by cases e:aM b em with|false=>rfl|true=>exact (h3 (dw.1 e)).elim
   simp only [this,Bool.false_or];cases hl:strLt s b with
   |true=>
    simp only [cond_true];have hlt:=D2.1 hl;exact .inr ⟨by simp,hp,hs,fun t ht hpt=>by
     rcases List.mem_append.1 ht with ht|ht
     ·exact List.le_trans (List.le_of_lt hlt) (h4 t ht hpt)
     ·rw [List.mem_singleton.1 ht]; exact List.le_refl _⟩
   |false=>
    simp only [cond_false];have hlt: ¬ s.data.toList<b.data.toList:=fun h=>by rw [D2.2 h] at hl; exact absurd hl (by simp)
    exact .inr ⟨List.mem_append_left _ h1,h2,h3,fun t ht hpt=>by
     rcases List.mem_append.1 ht with ht|ht
     ·exact h4 t ht hpt
     ·rw [List.mem_singleton.1 ht]; exact List.not_lt.1 hlt⟩
theorem aaG {p:ByteArray→Bool} (N:List ByteArray) (hN: ∀ s∈N,s≠em): ∀ (l:List ByteArray) (b:ByteArray),Nx p l b→Nx p (l++N) (N.foldl (EZ p) b):=by
 induction N with
 |nil=>intro l b h; simpa using h
 |cons a N ih=>
  intro l b h;have:=ih (fun s hs=>hN s (by simp [hs])) (l++[a]) _ (YR h (hN a (by simp)));simpa using this
theorem aaH (p:ByteArray→Bool) (N:List ByteArray) (hN: ∀ s∈N,s≠em):N.foldl (EZ p) em=((fc N).find? p).getD em:=by
 have h:=aaG (p:=p) N hN [] em (.inl ⟨rfl,by simp⟩);simp only [List.nil_append] at h;cases e:(fc N).find? p with
 |none=>
  have hn: ∀ s∈N,p s=false:=fun s hs=>by simpa using List.find?_eq_none.1 e s (yQ.2 hs)
  rcases h with ⟨h1,_⟩|⟨h1,h2,_⟩
  ·rw [h1]; rfl
  ·rw [hn _ h1] at h2; exact absurd h2 (by simp)
 |some x=>
  obtain ⟨hpx,as,bs,hl,hb⟩:=List.find?_eq_some_iff_append.1 e;have hxN:x∈N:=yQ.1 (by rw [hl]; simp);have hmin: ∀ s∈N,p s=true→x.data.toList≤s.data.toList:=by
   intro s hs hps;have hs':=yQ.2 hs;rw [hl] at hs';have hsd:=Nw N;rw [hl] at hsd;rcases List.mem_append.1 hs' with hs'|hs'
   ·have:=hb s hs'; rw [hps] at this; exact absurd this (by simp)
   ·rcases List.mem_cons.1 hs' with rfl|hs'
    ·exact List.le_refl _
    ·exact (List.pairwise_cons.1 (List.pairwise_append.1 hsd).2.1).1 s hs'
  simp only [Option.getD_some];rcases h with ⟨_,h2⟩|⟨h1,h2,_,h4⟩
  ·rw [h2 x hxN] at hpx; exact absurd hpx (by simp)
  ·exact SF (List.le_antisymm (h4 x hxN hpx) (hmin _ h1 h2))
instance ah4:DecidableEq ByteArray:=fun s t=>decidable_of_iff (aM s t=true) dw
def inL (s:ByteArray) (l:List ByteArray):Bool:=l.any (aM s)
theorem aaI {s:ByteArray} {l:List ByteArray}:inL s l=true↔s∈l:=by
 simp only [inL,List.any_eq_true];constructor
 ·rintro ⟨x,h1,h2⟩; rw [dw.1 h2]; exact h1
 ·intro h; exact ⟨s,h,dw.2 rfl⟩
def Of (nd:ByteArray→List ByteArray) (out:List ByteArray) (s:ByteArray):Bool:= !inL s out&&(nd s).all fun x=>inL x out
def Ny (nd:ByteArray→List ByteArray) (N:List ByteArray):Nat→List ByteArray→List ByteArray
 |0,out=>out
 |k+1,out=>match (fc N).find? (Of nd out) with
  |none=>out
  |some s=>Ny nd N k (out++[s])
theorem VX: ∀ (l N:List ByteArray),l.Nodup→(∀ x∈l,x∈N)→l.length≤N.length:=by
 intro l;induction l with
 |nil=>intro N _ _; simp
 |cons a l ih=>
  intro N hd hs;have ha:a∈N:=hs a (by simp);have:=ih (N.filter fun x=>decide (x≠a)) (List.nodup_cons.1 hd).2 (fun x hx=>List.mem_filter.2 ⟨hs x (by simp [hx]),by simp only [ne_eq,decide_not,Bool.not_eq_true',decide_eq_false_iff_not]; intro e; exact (List.nodup_cons.1 hd).1 (e ▸ hx)⟩);have h2:(N.filter fun x=>decide (x≠a)).length<N.length:=List.length_filter_lt_length_iff_exists.2 ⟨a,ha,by simp⟩;simp only [List.length_cons]; omega
theorem Iw {nd:ByteArray→List ByteArray} {N out:List ByteArray} {s:ByteArray} (h:(fc N).find? (Of nd out)=some s):s∈N∧s∉out:=by
 have h1:=List.find?_some h;have h2:=List.mem_of_find?_eq_some h;simp only [Of,Bool.and_eq_true,Bool.not_eq_true'] at h1;exact ⟨yQ.1 h2,fun hm=>by rw [aaI.2 hm] at h1; exact absurd h1.1 (by simp)⟩
theorem VY {nd:ByteArray→List ByteArray} {N out:List ByteArray} (hd:out.Nodup) (hs: ∀ x∈out,x∈N) (hl:N.length≤out.length):(fc N).find? (Of nd out)=none:=by
 cases e:(fc N).find? (Of nd out) with
 |none=>rfl
 |some s=>
  have ⟨h1,h2⟩:=Iw e;have:=VX (s::out) N (List.nodup_cons.2 ⟨h2,hd⟩) (fun x hx=>by rcases List.mem_cons.1 hx with rfl|hx; exact h1; exact hs x hx);simp only [List.length_cons] at this; omega
end
end Go.Sy.V
namespace Go.Sy.V
open PV Go.Sy
noncomputable section
theorem LA {a:ByteArray} {q:PV}:eM (.str a) q=true↔q= .str a:=by
 cases q with
 |str b=>simp only [eM,dw,PV.str.injEq]; exact eq_comm
 |_=>simp [eM]
theorem LB (l:List PV) (a b:ByteArray) (v:PV):qh (cL l (.str a) v) (.str b)=cond (aM a b) (some v) (qh l (.str b)):=by
 induction l with
 |nil=>
  simp only [cL,qh,cU,aA,aQ,eM];rw [qt]; cases aM a b<;>rfl
 |cons p l ih=>
  simp only [cL];cases h:eM (.str a) (aj p 0) with
  |true=>
   have hp:=LA.1 h;simp only [qh,cU,aA,aQ,hp,eM];rw [qt b a]; cases aM a b<;>rfl
  |false=>
   simp only [qh,ih];cases h2:eM (.str b) (aj p 0) with
   |false=>rfl
   |true=>
    have hp:=LA.1 h2;cases h3:aM a b with
    |false=>rfl
    |true=>
     rw [dw.1 h3,h2] at h; exact absurd h (by simp)
def nm (u:PV):ByteArray:=(aj u 0).toStr
theorem LC (val:PV→PV) (U:List PV) (hd:U.Pairwise fun a b=>nm a≠nm b) (s:ByteArray): ∀ M:List PV,qh (U.foldl (fun m u=>cL m (.str (aj u 0).toStr) (val u)) M) (.str s)=match U.find? (mE s) with|some u=>some (val u)|none=>qh M (.str s):=by
 induction U with
 |nil=>intro M; rfl
 |cons u U ih=>
  intro M;have hd':=List.pairwise_cons.1 hd;simp only [List.foldl_cons,ih hd'.2,List.find?_cons];cases h:mE s u with
  |true=>
   have hu:nm u=s:=dw.1 h;have:U.find? (mE s)=none:=by
    rw [List.find?_eq_none]; intro x hx hxs;exact hd'.1 x hx (by rw [hu]; exact (dw.1 hxs).symm)
   simp only [this,LB];rw [show aM (aj u 0).toStr s=true from h]; rfl
  |false=>
   cases U.find? (mE s) with
   |some x=>rfl
   |none=>simp only [LB]; rw [show aM (aj u 0).toStr s=false from h]; rfl
theorem YS {L:List PV} {key:PV→ByteArray} (h:DY L key=true):L.Pairwise fun a b=>(key a).data.toList<(key b).data.toList:=by
 have hs: ∀ k i,scan (fun i=>cond (strLt (key (rd L (i - 1:Nat))) (key (rd L i))) none (some false)) true k i=true→ ∀ j,i≤j→j<i+k→strLt (key (rd L (j - 1:Nat))) (key (rd L j))=true:=by
  intro k;induction k with
  |zero=>intro i _ j h1 h2; omega
  |succ k ih=>
   intro i h j h1 h2;simp only [scan] at h;cases e:strLt (key (rd L (i - 1:Nat))) (key (rd L i)) with
   |false=>rw [e] at h; simp at h
   |true=>
    rw [e] at h;by_cases hj:j=i
    ·subst hj; exact e
    ·exact ih (i+1) h j (by omega) (by omega)
 have hc:=hs _ _ h;have ahU: ∀ j i,i<j→j<L.length→(key (rd L i)).data.toList<(key (rd L j)).data.toList:=by
  intro j;induction j with
  |zero=>intro i h1 _; omega
  |succ j ih=>
   intro i h1 h2;have hj:=D2.1 (hc (j+1) (by omega) (by omega));simp only [Nat.add_sub_cancel] at hj;by_cases e:i=j
   ·subst e; exact hj
   ·exact List.lt_trans (ih i (by omega) (by omega)) hj
 rw [List.pairwise_iff_getElem];intro i j hi hj hij;have:=ahU j i hij hj;simpa [rd,hi,hj] using this
theorem YT {L:List PV} (h:DY L (fun x=>(aj x 0).toStr)=true):L.Pairwise fun a b=>nm a≠nm b:=
 (YS h).imp fun hlt e=>by
  simp only [nm] at e; rw [e] at hlt; exact List.lt_irrefl _ hlt
theorem SG {R:Type} (L:List PV) (hn:L.length≤aN) (B:List PV→Option (List PV ⊕ (List PV ⊕ R))) (p:PV→Bool) (k:List PV→Option R)
  (hB: ∀ i:Nat,i<L.length→rd L i∈L→B [.int i]=some (cond (p (rd L i)) (.inr (.inl [.int i])) (.inl [.int (IntKind.i64.wrap (i+1))]))):
  aq (iter (fun ρ=>cond (aK (nth ρ 0).toInt (L.length:Int)) (B ρ) (ay (some (.inl [.int (-1)])))) [.int 0]) k=match L.findIdx? p with|some i=>k [.int i]|none=>k [.int (-1)]:=by
 rw [bO L.length hn [] B _ (fun i=>cond (p (rd L i)) (some (.inl [.int i])) none) (fun i h=>by rw [hB i h (m_ h)]; cases p (rd L i)<;>rfl)];clear hB;have key: ∀ k' i,i+k'=L.length→aq (scan (fun i=>(cond (p (rd L i)) (some (Sum.inl [PV.int i])) none:Option (List PV ⊕ R)).map some) (some (.inl [.int (-1)])) k' i) k=match (L.drop i).findIdx? p with|some j=>k [.int ((i+j:Nat):Int)]|none=>k [.int (-1)]:=by
  intro k';induction k' with
  |zero=>intro i e; simp [scan,List.drop_eq_nil_of_le (show L.length≤i by omega)]
  |succ k' ih=>
   intro i e;have hi:i<L.length:=by omega
   rw [List.drop_eq_getElem_cons hi];have e1:rd L i=L[i]:=by simp [rd,hi]
   simp only [scan,List.findIdx?_cons,e1];cases p L[i] with
   |true=>simp
   |false=>
    simp only [cond_false,Option.map_none,ih (i+1) (by omega),Bool.false_eq_true,if_false];cases (L.drop (i+1)).findIdx? p with
    |none=>rfl
    |some j=>simp only [Option.map_some,Nat.add_right_comm,Nat.add_assoc]
 have:=key L.length 0 (by omega);simpa using this
theorem YU {l:List ByteArray} {q:ByteArray→Bool}:match l.findIdx? q with|some i=> ∃ h:i<l.length,l.find? q=some l[i]|none=>l.find? q=none:=by
 induction l with
 |nil=>simp
 |cons a l ih=>
  simp only [List.findIdx?_cons,List.find?_cons];cases q a with
  |true=>simp
  |false=>
   simp only [Bool.false_eq_true,if_false];cases e:l.findIdx? q with
   |none=>rw [e] at ih; simpa using ih
   |some i=>
    rw [e] at ih;obtain ⟨h,h2⟩:=ih;exact ⟨by simp; omega,by simpa using h2⟩
theorem vQ (out:List ByteArray) (s:ByteArray) (h:out.length≤aN):cQ [.list (out.map .str), .str s]=some [.bool (inL s out)]:=by
 have hl:(out.map PV.str).length≤aN:=by simpa using h
 simp only [cQ,gS,aA,aQ,aE,aS];rw [bO (out.map PV.str).length hl [] _ _ (fun i=>cond (aM s (rd (out.map PV.str) i).toStr) (some [.int i]) none)]
 ·have key: ∀ (L:List PV) k i,i+k=L.length→andThen (scan (fun i=>(cond (aM s (rd L i).toStr) (some [PV.int i]) none:Option (List PV)).map some) (some [PV.int (-1)]) k i) (fun r0=>some [PV.bool (bE (nth r0 0).toInt 0)])=some [PV.bool ((L.drop i).any fun x=>aM s x.toStr)]:=by
   intro L k;induction k with
   |zero=>intro i e; simp [scan,List.drop_eq_nil_of_le (show L.length≤i by omega),bE]
   |succ k ih=>
    intro i e;have hi:i<L.length:=by omega
    rw [List.drop_eq_getElem_cons hi];have e1:rd L i=L[i]:=by simp [rd,hi]
    simp only [scan,List.any_cons,e1];cases aM s L[i].toStr with
    |true=>simp [bE]
    |false=>simpa using ih (i+1) (by omega)
  have:=key (out.map PV.str) (out.map PV.str).length 0 (by omega);rw [this]; simp [inL,List.any_map,Function.comp_def]
 ·intro i hi
  simp only [aA,toInt_int,aB hi,au]
  grind [aq,ay,andThen,aA,ak]
end
end Go.Sy.V
namespace Go.Sy.V
open PV Go.Sy
noncomputable section
theorem Ix {R:Type} (L:List PV) (hn:L.length≤aN) (B:List PV→Option (List PV ⊕ R)) (E:List PV→Option R) (g g':PV→PV→PV) (I:Nat→PV→Prop)
  (hI: ∀ i:Nat,i<L.length→ ∀ a,I i a→I (i+1) (g a (rd L i)))
  (hB: ∀ i:Nat,i<L.length→rd L i∈L→ ∀ a b,I i a→B [a, .int i,b]=some (.inl [g a (rd L i), .int (IntKind.i64.wrap (i+1)),g' b (rd L i)])) (a b:PV) (ha:I 0 a):
  iter (fun ρ=>cond (aK (nth ρ 1).toInt (L.length:Int)) (B ρ) (ay (E ρ))) [a, .int 0,b]=E [L.foldl g a, .int L.length,L.foldl g' b]:=by
 have hw: ∀ i:Nat,i<L.length→IntKind.i64.wrap ((i:Int)+1)=((i+1:Nat):Int):=by
  intro i hi; rw [wrap_i64 (by omega) (by simp only [aN] at hn; omega)]; simp
 have key: ∀ k i:Nat,k+i=L.length→ ∀ a b,I i a→iter (fun ρ=>cond (aK (nth ρ 1).toInt (L.length:Int)) (B ρ) (ay (E ρ))) [a, .int i,b]=E [(L.drop i).foldl g a, .int L.length,(L.drop i).foldl g' b]:=by
  intro k;induction k with
  |zero=>
   intro i e a b ha;obtain rfl:i=L.length:=by omega
   rw [b_]; simp [aK]; cases E _<;>rfl
  |succ k ih=>
   intro i e a b ha;rw [b_];have hi:i<L.length:=by omega
   simp only [aQ,toInt_int,e_ hi,cond_true,hB i hi (m_ hi) a b ha,aR,hw i hi];rw [ih (i+1) (by omega) _ _ (hI i hi a ha),List.drop_eq_getElem_cons hi,List.foldl_cons,List.foldl_cons];have e1:rd L i=L[i]:=by simp [rd,hi]
   rw [e1]
 exact key L.length 0 (by omega) a b ha
theorem LD (L:List PV) (h:List PV→PV→List PV) (b:List PV):L.foldl (fun a x=>PV.list (h a.toList x)) (PV.list b)=PV.list (L.foldl h b):=by
 induction L generalizing b with
 |nil=>rfl
 |cons a l ih=>simp only [List.foldl_cons,aE,ih]
def bnm (L:List PV):List ByteArray:=L.map nm
theorem yR (L:List PV):names L=(bnm L).map .str:=by simp [Lw,bnm,nm,Function.comp_def]
def fD (r:PV):List ByteArray:=bnm (aj r 0).toList++bnm (aj r 2).toList
def ndL (r:PV) (s:ByteArray):List PV:=cond (has (aj r 0).toList s) (aj (uh (aj r 0).toList s) 16).toList (aj (uh (aj r 2).toList s) 1).toList
def nd (r:PV) (s:ByteArray):List ByteArray:=(ndL r s).map PV.toStr
def ac9 (r:PV):List PV:=(aj r 2).toList.foldl (fun m t=>cL m (.str (aj t 0).toStr) (.list (aj t 1).toList)) ((aj r 0).toList.foldl (fun m u=>cL m (.str (aj u 0).toStr) (.list (aj u 16).toList)) [])
def D3 (r:PV):Bool:=(aj r 0).toList.any fun u=>has (aj r 2).toList (aj u 0).toStr
theorem VZ {r:PV} (ho:FM r=true) (hd:D3 r=false) (s:ByteArray):(qV (ac9 r) (.str s) (.list [])).toList=ndL r s:=by
 simp only [FM,Bool.and_eq_true] at ho;have h0:=YT ho.1.1;have h2:=YT ho.1.2.2;simp only [qV,ac9,LC _ _ h2,LC _ _ h0,qh,ndL,has,uh];cases e2:(aj r 2).toList.find? (mE s) with
 |none=>
  cases e0:(aj r 0).toList.find? (mE s) with
  |none=>rfl
  |some u=>rfl
 |some t=>
  cases e0:(aj r 0).toList.find? (mE s) with
  |none=>rfl
  |some u=>
   exfalso;have hu:=List.mem_of_find?_eq_some e0;have hn:(aj u 0).toStr=s:=dw.1 (show mE s u=true from List.find?_some e0);simp only [D3,List.any_eq_false] at hd;have:=hd u hu;rw [hn] at this;simp [has,e2] at this
theorem QB {r:PV} (hl:Rx r) (s:ByteArray):(ndL r s).length≤4:=by
 unfold ndL;cases has (aj r 0).toList s with
 |true=>exact Gw (P:=fun u=>(aj u 16).toList.length≤4) (by decide) (fun u hu=>(hl.1 u hu).1)
 |false=>exact Gw (P:=fun u=>(aj u 1).toList.length≤4) (by decide) (fun u hu=>hl.2 u hu)
theorem rdm {l:List ByteArray} {i:Nat} (h:i<l.length):rd (l.map PV.str) i= .str l[i]:=by simp [rd,h]
theorem ahV (l:List ByteArray) (q:ByteArray→Bool):(l.map PV.str).findIdx? (fun x=>q x.toStr)=l.findIdx? q:=by
 rw [List.findIdx?_map]; rfl
theorem Nz (ρ) (h:oA (nth ρ 0)) (hl:Rx (nth ρ 0)) (ho:FM (nth ρ 0)=true) (hd:D3 (nth ρ 0)=false):
  lT ρ=some ((Ny (nd (nth ρ 0)) (fD (nth ρ 0)) (fD (nth ρ 0)).length []).map .str):=by
 have hu:=h.u; have ht:=h.t;generalize hr:nth ρ 0=r at*;simp only [lT,hr];rw [Ix _ (le_max (by omega)) _ _ (fun a u=> .list (a.toList++[.str (aj u 0).toStr])) (fun b u=> .list (cL b.toList (.str (aj u 0).toStr) (.list (aj u 16).toList))) (fun i a=> ∃ l:List PV,a= .list l∧l.length=i) (fun i hi a ⟨l,e,hl⟩=>⟨_,rfl,by simp [e,hl]⟩)]
 rotate_left
 ·rintro i hi hm a b ⟨l,rfl,e⟩
  simp only [aA,aQ,bJ,toInt_int,aE,aB hi,au];rw [bh (by omega) (by simp; omega),au]
 ·exact ⟨[],rfl,rfl⟩
 rw [B7,LD (aj r 0).toList (fun m u=>cL m (.str (aj u 0).toStr) (.list (aj u 16).toList))];simp only [aA,aQ,bJ,aE,List.nil_append];rw [Ix _ (le_max (by omega)) _ _ (fun a u=> .list (a.toList++[.str (aj u 0).toStr])) (fun b u=> .list (cL b.toList (.str (aj u 0).toStr) (.list (aj u 1).toList))) (fun i a=> ∃ l:List PV,a= .list l∧l.length=i+(aj r 0).toList.length) (fun i hi a ⟨l,e,hl⟩=>⟨_,rfl,by simp [e,hl]; omega⟩)]
 rotate_left
 ·rintro i hi hm a b ⟨l,rfl,e⟩
  simp only [aA,aQ,bJ,toInt_int,aE,aB hi,au];rw [bh (by omega) (by simp; omega),au]
 ·exact ⟨_,rfl,by rw [oo _ _ 1 (fun _=>rfl)]; simp⟩
 rw [B7,LD (aj r 2).toList (fun m t=>cL m (.str (aj t 0).toStr) (.list (aj t 1).toList))];simp only [aA,aQ,bJ,aE];have hN:(aj r 0).toList.flatMap (fun x=>[PV.str (aj x 0).toStr])++(aj r 2).toList.flatMap (fun x=>[PV.str (aj x 0).toStr])=(fD r).map .str:=by
  have e0:=yR (aj r 0).toList;have e2:=yR (aj r 2).toList;simp only [names] at e0 e2;rw [e0,e2,fD,List.map_append]
 rw [hN];have hM:(aj r 2).toList.foldl (fun m t=>cL m (.str (aj t 0).toStr) (.list (aj t 1).toList)) ((aj r 0).toList.foldl (fun m u=>cL m (.str (aj u 0).toStr) (.list (aj u 16).toList)) [])=ac9 r:=rfl;rw [hM];have acF:Nat.blt (fD r).length 4611686018427387904=true:=by
  rw [Nat.blt_eq]; simp [fD,bnm]; omega
 simp only [dQ,acF,au,YQ,an,List.length_map,VZ ho hd];have hn:(fc (fD r)).length≤80:=by rw [Lz]; simp [fD,bnm]; omega
 have hn':(fc (fD r)).length=(fD r).length:=Lz _;generalize hF:(fun ac2:List PV=>_)=F;have hS:((fc (fD r)).map PV.str).length≤aN:=le_max (by simp; omega);have body: ∀ j (out:List ByteArray),j<(fD r).length→out.length≤80→F [.int j, .list (out.map .str)]=match (fc (fD r)).find? (Of (nd r) out) with|none=>some (.inr (.inl [.int j, .list (out.map .str)]))|some s=>some (.inl [.int (IntKind.i64.wrap (j+1)), .list ((out++[s]).map .str)]):=by
  intro j out hj ho';rw [← hF];simp only [aA,aQ,toInt_int,aE,e_ (show j<(fc (fD r)).length by omega),cond_true];have:=SG (R:=List PV ⊕ (List PV ⊕ List PV)) ((fc (fD r)).map PV.str) hS;simp only [List.length_map] at this;rw [this _ (fun x=>Of (nd r) out x.toStr)]
  ·rw [ahV]
   have hx:=YU (l:=fc (fD r)) (q:=Of (nd r) out);cases e:(fc (fD r)).findIdx? (Of (nd r) out) with
   |none=>
    rw [e] at hx;simp [hx,aK]
   |some i=>
    rw [e] at hx;obtain ⟨hi,hx⟩:=hx;simp only [hx,aA,toInt_int,show aK (i:Int) 0=false from by simp [aK],cond_false,aB hi,au,rdm hi,aS];rw [bh (by omega) (by simp; omega)];simp
  ·intro i hi hm
   have hi':i<(fc (fD r)).length:=by simpa using hi
   simp only [aA,toInt_int,aB hi',au,rdm hi',aS];rw [vQ _ _ (le_max (by omega))];simp only [an,aA,ak];rw [dx (ndL r (fc (fD r))[i]) (le_max (Nat.le_trans (QB hl _) (by omega))) _ (fun x=> !inL x.toStr out)]
   ·simp only [aA,toInt_int,show bE 0 0=true from rfl,show bE (-1) 0=false from rfl,Of,nd,List.all_map,List.all_eq_not_any_not,Function.comp_def]
    grind [aq,ay,andThen,aA,ak]
   ·intro q hq hm'
    simp only [aA,toInt_int,aB hq,au];rw [vQ _ _ (le_max (by omega))];simp only [an,aA,ak]
    grind [aq,ay,andThen,aA,ak]
   ·intro q; simp [bE]
 have key: ∀ k j (out:List ByteArray),k+j=(fD r).length→out.length=j→aq (iter F [.int j, .list (out.map .str)]) (fun ac3=>some (nth ac3 1).toList)=some ((Ny (nd r) (fD r) k out).map .str):=by
  intro k;induction k with
  |zero=>
   intro j out e1 e2;have:F [.int j, .list (out.map .str)]=some (.inr (.inl [.int j, .list (out.map .str)])):=by
    rw [← hF]; simp [aA,aQ,iQ (show ¬ j<(fc (fD r)).length by omega)]
   rw [b_,this];simp [Ny]
  |succ k ih=>
   intro j out e1 e2;rw [b_,body j out (by omega) (by omega)];simp only [Ny];cases e:(fc (fD r)).find? (Of (nd r) out) with
   |none=>simp
   |some s=>
    simp only [aR];rw [wrap_i64 (by omega) (by omega)];exact ih (j+1) (out++[s]) (by omega) (by simp; omega)
 exact key _ 0 [] (by omega) rfl
end
end Go.Sy.V
namespace Go.Sy.V
open PV Go.Sy
noncomputable section
theorem V0 (r:PV) (s:ByteArray) (h:oA r):rI [r, .str s]=some [.list (ndL r s)]:=by
 simp only [rI,aA,aQ,aS,jf r s h,Is r s h,an,ak,ndL];unfold YN uh has;cases (aj r 0).toList.find? (mE s) with
 |some u=>rfl
 |none=>cases (aj r 2).toList.find? (mE s) with
  |none=>rfl
  |some u=>rfl
theorem Uw (out:List ByteArray) (s:ByteArray):((out.map PV.str).any fun y=>aM y.toStr s)=inL s out:=by
 simp only [inL,List.any_map,Function.comp_def,aS]
 congr 1; funext x; exact qt _ _
theorem NA (ρ) (h:oA (nth ρ 0)) (hl:Rx (nth ρ 0)) (hne: ∀ s∈fD (nth ρ 0),s≠em):
  lY ρ=some ((Ny (nd (nth ρ 0)) (fD (nth ρ 0)) (fD (nth ρ 0)).length []).map .str):=by
 have hu:=h.u; have ht:=h.t;generalize hr:nth ρ 0=r at*;simp only [lY,hr,yP [r] h,tQ [r] h,aA,an];rw [bh (by omega) (by simp [dH]; omega),au];have hN:names (aj r 0).toList++names (aj r 2).toList=(fD r).map .str:=by
  rw [yR,yR,fD,List.map_append]
 rw [hN];have hlen:(fD r).length≤80:=by simp [fD,bnm]; omega
 have hS:((fD r).map PV.str).length≤aN:=le_max (by simp; omega);generalize hF:(fun BY:List PV=>_)=F;have body: ∀ (out:List ByteArray),out.length≤80→F [.list (out.map .str)]=match (fc (fD r)).find? (Of (nd r) out) with|none=>some (.inr (out.map .str))|some s=>some (.inl [.list ((out++[s]).map .str)]):=by
  intro out ho;rw [← hF];simp only [aA,aE];have fold:=tP (R:=List PV ⊕ List PV) ((fD r).map PV.str) hS;rw [fold _ _ (fun a x=> .str (EZ (Of (nd r) out) a.toStr x.toStr)) (fun _ a=> ∃ b:ByteArray,a= .str b) (fun i hi a _=>⟨_,rfl⟩)]
  rotate_left
  ·rintro i hi hm a ⟨b,rfl⟩
   have hi':i<(fD r).length:=by simpa using hi
   simp only [aA,aQ,toInt_int,aB hi,au,rdm hi',aS];rw [Cb _ _ (le_max (by simp; omega)),Uw];simp only [an,aA,ak,V0 r _ h,aE];rw [Cc _ _ (le_max (Nat.le_trans (QB hl _) (by omega))) (le_max (by simp; omega))];simp only [an,aA,ak,Uw,EZ,Of,nd,List.all_map,Function.comp_def];rw [show em=ByteArray.mk #[] from rfl]
   grind [aq,ay,andThen,aA,ak,aS]
  ·exact ⟨_,rfl⟩
  have hf: ∀ (l:List ByteArray) (b:ByteArray),(l.map PV.str).foldl (fun a x=>PV.str (EZ (Of (nd r) out) a.toStr x.toStr)) (PV.str b)= .str (l.foldl (EZ (Of (nd r) out)) b):=by
   intro l;induction l with
   |nil=>intro b; rfl
   |cons a l ih=>intro b; simp only [List.map_cons,List.foldl_cons,aS,ih]
  rw [hf,show ByteArray.mk #[]=em from rfl,aaH _ _ hne];simp only [aA,aS];cases e:(fc (fD r)).find? (Of (nd r) out) with
  |none=>simp [show aM em em=true from rfl]
  |some s=>
   have hs:=Iw e;have:aM s em=false:=by cases e2:aM s em with|false=>rfl|true=>exact (hne s hs.1 (dw.1 e2)).elim
   simp only [Option.getD_some,this,cond_false];rw [bh (by omega) (by simp; omega)];simp
 have key: ∀ k (out:List ByteArray),k+out.length=(fD r).length→out.Nodup→(∀ x∈out,x∈fD r)→iter F [.list (out.map .str)]=some ((Ny (nd r) (fD r) k out).map .str):=by
  intro k;induction k with
  |zero=>
   intro out e1 hd hs;rw [b_,body out (by omega),VY hd hs (by omega)];rfl
  |succ k ih=>
   intro out e1 hd hs;rw [b_,body out (by omega)];simp only [Ny];cases e:(fc (fD r)).find? (Of (nd r) out) with
   |none=>rfl
   |some s=>
    have h2:=Iw e;simp only [aR];refine ih (out++[s]) (by simp; omega) ?_ ?_
    ·rw [List.nodup_append]
     exact ⟨hd,by simp,by rintro a ha b hb rfl; simp at hb; exact h2.2 (hb ▸ ha)⟩
    ·intro x hx
     rcases List.mem_append.1 hx with hx|hx
     ·exact hs x hx
     ·simp at hx; rw [hx]; exact h2.1
 exact key _ [] (by simp) List.nodup_nil (by simp)
end
end Go.Sy.V
namespace Go.Sy.V
open PV Go.Sy
noncomputable section
def ac_ (r:PV):List PV:=(Ny (nd r) (fD r) (fD r).length []).map .str
def vR (r:PV):Int:=cond (!Io r) 2 (cond (!YJ r) 6 (cond (!FM r) 13 (cond (D3 r) 7 (cond (!Iq r) 1 (cond (!It r) 8 (cond (!Nv r) 18 (cond (aK ((ac_ r).length:Int) (IntKind.i64.wrap (((aj r 0).toList.length:Int)+((aj r 2).toList.length:Int)))) 14 0)))))))
theorem YV (r:PV):((aj r 2).toList.any fun t=>has (aj r 0).toList (aj t 0).toStr)=D3 r:=by
 simp only [D3,Uv,mE];rw [Bool.eq_iff_iff];simp only [List.any_eq_true];constructor
 ·rintro ⟨t,ht,u,hu,e⟩; exact ⟨u,hu,t,ht,by simp only [mE] at *; rw [qt]; exact e⟩
 ·rintro ⟨u,hu,t,ht,e⟩; exact ⟨t,ht,u,hu,by simp only [mE] at *; rw [qt]; exact e⟩
theorem ada {r:PV} (h:YJ r=true): ∀ s∈fD r,s≠em:=by
 have hn: ∀ s,eN s=true→s≠em:=by
  rintro s hs rfl;simp [eN,em,aK,ByteArray.size] at hs
 simp only [YJ,Bool.and_eq_true,List.all_eq_true] at h;intro s hs;simp only [fD,bnm,List.mem_append,List.mem_map] at hs;rcases hs with ⟨u,hu,rfl⟩|⟨u,hu,rfl⟩
 ·exact hn _ (h.1 u hu)
 ·exact hn _ (h.2.2 u hu)
theorem xK (ρ) (h:oA (nth ρ 0)) (w:Wf (nth ρ 0)):fT ρ=some [.int (vR (nth ρ 0))]:=by
 have hu:=h.u; have hw:=h.w; have ht:=h.t;generalize hr:nth ρ 0=r at*;simp only [fT,hr];rw [Nt [r] h w,Qv [r] w,J2 [r] h w];simp only [an,aA,ak,vR];cases h1:Io r with
 |false=>rfl
 |true=>
 cases h2:YJ r with
 |false=>rfl
 |true=>
 cases h3:FM r with
 |false=>rfl
 |true=>
 simp only [Bool.not_true,cond_false];rw [aY _ (le_max (by omega)) [] _ _ [.int 7] (fun t=> !has (aj r 0).toList (aj t 0).toStr)]
 rotate_left
 ·intro i hi hm
  simp only [aA,toInt_int,aB hi,au,kY _ _ (le_max (show (aj r 0).toList.length≤4096 by omega)),aR,ak];cases has _ _<;>rfl
 rw [show ((aj r 2).toList.all fun t=> !has (aj r 0).toList (aj t 0).toStr)= !D3 r from by rw [← YV]; simp [List.all_eq_not_any_not]];cases h4:D3 r with
 |true=>rfl
 |false=>
 rw [J3 [r] h,D1 [r] h w,Qz [r] h w,Nz [r] h (SD h1) h3 h4];simp only [an,aA,ak,Bool.not_false,cond_true,cond_false,ac_];cases Iq r<;>cases It r<;>cases Nv r<;>simp
theorem Cd (ρ) (h:oA (nth ρ 0)) (w:Wf (nth ρ 0)):iC ρ=some [.int (vR (nth ρ 0))]:=by
 have hu:=h.u; have hw:=h.w; have ht:=h.t;generalize hr:nth ρ 0=r at*;simp only [iC,hr];rw [SB [r] h w,VQ [r] h w,Qw [r] h w];simp only [an,aA,ak,vR];cases h1:Io r with
 |false=>rfl
 |true=>
 cases h2:YJ r with
 |false=>rfl
 |true=>
 cases h3:FM r with
 |false=>rfl
 |true=>
 simp only [Bool.not_true,cond_false,tQ [r] h,aA,an];rw [aY _ (le_max (by omega)) [] _ _ [.int 7] (fun u=> !has (aj r 2).toList (aj u 0).toStr)]
 rotate_left
 ·intro i hi hm
  simp only [aA,toInt_int,aB hi,au];rw [Cb _ _ (le_max (by simp [dH]; omega)),D0];simp only [an,aA,ak];cases has _ _<;>rfl
 rw [show ((aj r 0).toList.all fun t=> !has (aj r 2).toList (aj t 0).toStr)= !D3 r from by simp [D3,List.all_eq_not_any_not]];cases h4:D3 r with
 |true=>rfl
 |false=>
 rw [Qx [r] h,VU [r] h w,NA [r] h (SD h1) (ada h2)];simp only [an,aA,ak,Bool.not_false,cond_true,cond_false,ac_];cases Iq r with
 |false=>rfl
 |true=>
 cases h6:It r with
 |false=>rfl
 |true=>
 rw [VW [r] h w h6];simp only [an,aA,ak,Bool.not_true,cond_true,cond_false];cases Nv r<;>simp
end
end Go.Sy.V
namespace Go.Sy.V
open PV Go.Sy
noncomputable section
def jE (x:Int):Int:=jL (-1048576) (mR x 1048576)
theorem ahW (x:Int):mR (jL x (-1048576)) 1048576=jE x:=by
 simp only [jE,mR,jL]; repeat' split
 all_goals omega
theorem Ay (x:Int): -1048576≤jE x:=by
 simp only [jE,mR,jL]; repeat' split
 all_goals omega
theorem Az (x:Int):jE x≤1048576:=by
 simp only [jE,mR,jL]; repeat' split
 all_goals omega
theorem D4 {x:Int} (h1: -1048576≤x) (h2:x≤1048576):jE x=x:=by
 simp only [jE,mR,jL]; repeat' split
 all_goals omega
def Ce (p:PV):PV:= .agg [.int (jE (aj p 0).toInt), .int (jE (aj p 1).toInt)]
def oK (p:PV):PV:= .agg [.int (jE (aj p 0).toInt), .int (jE (aj p 1).toInt), .int (jE (aj p 2).toInt), .int (jE (aj p 3).toInt)]
@[simp] theorem V1 (ρ):n8 ρ=some [.int (jL (nth ρ 1).toInt (mR (nth ρ 0).toInt (nth ρ 2).toInt))]:=rfl
@[simp] theorem V2 (ρ):rK ρ=some [.int (jL (nth ρ 1).toInt (mR (nth ρ 0).toInt (nth ρ 2).toInt))]:=rfl
@[simp] theorem afS (ρ):u_ ρ=some [.int (jE (nth ρ 0).toInt)]:=rfl
@[simp] theorem E0 (ρ):ep ρ=some [Ce (nth ρ 0)]:=rfl
@[simp] theorem afT (ρ):ql ρ=some [.int (jE (nth ρ 0).toInt)]:=by simp only [ql,ahW]
@[simp] theorem abF (ρ):dN ρ=some [Ce (nth ρ 0)]:=by simp [dN,Ce]
def AA (p:PV):Bool:=(aj p 0).toInt==jE (aj p 0).toInt&&((aj p 1).toInt==jE (aj p 1).toInt&&true)
@[simp] theorem yS (ρ):iy ρ=some [.bool (AA (nth ρ 0))]:=rfl
@[simp] theorem yT (ρ):f_ ρ=some [.bool (AA (nth ρ 0))]:=by simp [f_,AA,Ce]
@[simp] theorem adX (ρ):dR ρ=some [.int (jE (nth ρ 0).toInt)]:=rfl
@[simp] theorem afU (ρ):gy ρ=some [.int (jE (nth ρ 0).toInt)]:=rfl
@[simp] theorem afV (ρ):vf ρ=some [Ce (nth ρ 0)]:=rfl
@[simp] theorem agt (ρ):yM ρ=some [Ce (nth ρ 0)]:=rfl
@[simp] theorem adY (ρ):kj ρ=some [oK (nth ρ 0)]:=rfl
@[simp] theorem YW (ρ):jP ρ=some [oK (nth ρ 0)]:=rfl
def gvB (w h:Int):Bool:=bE w 1&&(cI w 32&&(bE h 1&&cI h 32))
@[simp] theorem adb (ρ):o_ ρ=some [.bool (gvB (nth ρ 0).toInt (nth ρ 1).toInt)]:=by simp [o_,gvB]
@[simp] theorem adZ (ρ):rF ρ=some [.bool (gvB (nth ρ 0).toInt (nth ρ 1).toInt)]:=by simp [rF,gvB]
def V3 (w h:Int) (p:PV):Bool:=bE (aj p 0).toInt 0&&(aK (aj p 0).toInt w&&(bE (aj p 1).toInt 0&&aK (aj p 1).toInt h))
@[simp] theorem agu (ρ):yL ρ=some [.bool (V3 (nth ρ 0).toInt (nth ρ 1).toInt (nth ρ 2))]:=by simp [yL,V3]
@[simp] theorem ahX (ρ):B5 ρ=some [.bool (V3 (nth ρ 0).toInt (nth ρ 1).toInt (nth ρ 2))]:=by simp [B5,V3]
def YX (w:Int) (p:PV):Int:=IntKind.i64.wrap ((IntKind.i64.wrap (jE (aj p 1).toInt*jE w))+jE (aj p 0).toInt)
@[simp] theorem ade (ρ):vg ρ=some [.int (YX (nth ρ 0).toInt (nth ρ 1))]:=rfl
@[simp] theorem ad0 (ρ):xE ρ=some [.int (YX (nth ρ 0).toInt (nth ρ 1))]:=rfl
def SH (r p:PV):Bool:=bE (aj p 0).toInt (aj r 0).toInt&&(aK (aj p 0).toInt (IntKind.i64.wrap ((aj r 0).toInt+(aj r 2).toInt))&&(bE (aj p 1).toInt (aj r 1).toInt&&aK (aj p 1).toInt (IntKind.i64.wrap ((aj r 1).toInt+(aj r 3).toInt))))
@[simp] theorem QC (ρ):nD ρ=some [.bool (SH (oK (nth ρ 0)) (Ce (nth ρ 1)))]:=by simp [nD,SH]
@[simp] theorem SI (ρ):l5 ρ=some [.bool (SH (oK (nth ρ 0)) (Ce (nth ρ 1)))]:=by simp [l5,SH]
def mtW (a b:PV) (i j:Nat):Int:=IntKind.i64.wrap ((mR (IntKind.i64.wrap ((aj a i).toInt+(aj a j).toInt)) (IntKind.i64.wrap ((aj b i).toInt+(aj b j).toInt))) - (jL (aj a i).toInt (aj b i).toInt))
def qu (a b:PV):PV:=cond (aK (aj a 2).toInt 1||(aK (aj a 3).toInt 1||(aK (aj b 2).toInt 1||(aK (aj b 3).toInt 1||(aK (mtW a b 0 2) 1||aK (mtW a b 1 3) 1))))) (.agg [.int 0, .int 0, .int 0, .int 0]) (.agg [.int (jL (aj a 0).toInt (aj b 0).toInt), .int (jL (aj a 1).toInt (aj b 1).toInt), .int (mtW a b 0 2), .int (mtW a b 1 3)])
@[simp] theorem ad1 (ρ):n9 ρ=some [qu (nth ρ 0) (nth ρ 1)]:=by
 simp only [n9,qu];cases aK (aj (nth ρ 0) 2).toInt 1<;>cases aK (aj (nth ρ 0) 3).toInt 1<;>cases aK (aj (nth ρ 1) 2).toInt 1<;>cases aK (aj (nth ρ 1) 3).toInt 1<;>try rfl
 simp only [cond_false,Bool.false_or,mtW];generalize aK _ 1=a;generalize aK _ 1=b;cases a<;>cases b<;>rfl
@[simp] theorem SJ (ρ):l6 ρ=some [qu (nth ρ 0) (nth ρ 1)]:=by
 simp only [l6,qu];cases aK (aj (nth ρ 0) 2).toInt 1<;>cases aK (aj (nth ρ 0) 3).toInt 1<;>cases aK (aj (nth ρ 1) 2).toInt 1<;>cases aK (aj (nth ρ 1) 3).toInt 1<;>try rfl
 simp only [cond_false,Bool.false_or,mtW,aR,aA,ak];generalize aK _ 1=a;generalize aK _ 1=b;cases a<;>cases b<;>rfl
@[simp] theorem V4 (ρ):rE ρ=some [.bool (bq (aj (qu (oK (nth ρ 0)) (oK (nth ρ 1))) 2).toInt 0)]:=by simp [rE]
@[simp] theorem YY (ρ):vm ρ=some [.bool (bq (aj (qu (oK (nth ρ 0)) (oK (nth ρ 1))) 2).toInt 0)]:=by simp [vm]
theorem D5 (a b:Int):jL a b=jL b a:=by simp only [jL]; split<;>split<;>omega
theorem V5 (a b:Int):mR a b=mR b a:=by simp only [mR]; split<;>split<;>omega
theorem Iy (a b:PV):qu a b=qu b a:=by
 have h: ∀ i j,mtW a b i j=mtW b a i j:=fun i j=>by simp only [mtW]; rw [V5,D5]
 simp only [qu,h,D5 (aj a 0).toInt,D5 (aj a 1).toInt]
 grind
@[simp] theorem V6 (ρ):rD ρ=some [qu (oK (nth ρ 2)) (.agg [.int 0, .int 0, .int (jE (nth ρ 0).toInt), .int (jE (nth ρ 1).toInt)])]:=by simp [rD]
@[simp] theorem YZ (ρ):vn ρ=some [qu (oK (nth ρ 2)) (.agg [.int 0, .int 0, .int (jE (nth ρ 0).toInt), .int (jE (nth ρ 1).toInt)])]:=by
 simp only [vn,YW,an,aA,aQ,SJ,Iy (oK (nth ρ 2))]; rfl
def ZH (m:PV):Bool:=gvB (aj m 0).toInt (aj m 1).toInt&&(((aj m 2).toList.length:Int)==IntKind.i64.wrap ((aj m 0).toInt*(aj m 1).toInt))
@[simp] theorem Iz (ρ):fS ρ=some [.bool (ZH (nth ρ 0))]:=by simp [fS,ZH]
@[simp] theorem SK (ρ):lX ρ=some [.bool (ZH (nth ρ 0))]:=by simp [lX,ZH]
def D6 (m p:PV):Bool:=ZH m&&V3 (aj m 0).toInt (aj m 1).toInt p
@[simp] theorem IA (ρ):iK ρ=some [.bool (D6 (nth ρ 0) (nth ρ 1))]:=by simp [iK,D6]
@[simp] theorem SL (ρ):pG ρ=some [.bool (D6 (nth ρ 0) (nth ρ 1))]:=by simp [pG,D6]
theorem Y0 {m p:PV} (h:D6 m p=true):bp (YX (aj m 0).toInt p) (aj m 2).toList.length=true:=by
 simp only [D6,ZH,gvB,V3,Bool.and_eq_true,beq_iff_eq,bE,cI,aK,decide_eq_true_eq] at h;obtain ⟨⟨⟨h1,h2,h3,h4⟩,h5⟩,h6,h7,h8,h9⟩:=h;simp only [YX];generalize (aj m 0).toInt=a at*;generalize (aj m 1).toInt=b at*;generalize (aj p 0).toInt=x at*;generalize (aj p 1).toInt=y at*;have e1:y*a≤(b - 1)*a:=Int.mul_le_mul_of_nonneg_right (by omega) (by omega);have e2:0≤y*a:=Int.mul_nonneg (by omega) (by omega);have e3:b*a≤32*32:=Int.le_trans (Int.mul_le_mul_of_nonneg_right h4 (by omega)) (by omega);rw [Int.sub_mul,Int.one_mul] at e1;have e4:a*b=b*a:=Int.mul_comm _ _;rw [D4 (by omega) (by omega),D4 (by omega) (by omega),D4 (by omega) (by omega),wrap_i64 (n:=y*a) (by omega) (by omega),wrap_i64 (by omega) (by omega)];rw [e4,wrap_i64 (by omega) (by omega)] at h5;simp [bp]; omega
def V7 (m p:PV):PV:=cond (D6 m p) (rd (aj m 2).toList (YX (aj m 0).toInt p)) (.agg [.int 0, .int 0, .int 0])
@[simp] theorem QD (ρ):nE ρ=some [V7 (nth ρ 0) (nth ρ 1), .bool (D6 (nth ρ 0) (nth ρ 1))]:=by
 simp only [nE,IA,an,aA,aQ,ak,V7];cases h:D6 (nth ρ 0) (nth ρ 1) with
 |false=>rfl
 |true=>simp [Y0 h]
@[simp] theorem aaJ (ρ):yN ρ=some [V7 (nth ρ 0) (nth ρ 1), .bool (D6 (nth ρ 0) (nth ρ 1))]:=by
 simp only [yN,SL,an,aA,aQ,ak,V7];cases h:D6 (nth ρ 0) (nth ρ 1) with
 |false=>rfl
 |true=>simp [Y0 h]
def IB (c:PV):Bool:= !(aK (aj c 0).toInt 1||(bq (aj c 0).toInt 5||(aK (aj c 1).toInt 0||(bq (aj c 1).toInt 3||(aK (aj c 2).toInt 0||bq (aj c 2).toInt 1000000)))))&&cond ((aj c 0).toInt==4) ((bq (aj c 2).toInt 0)==true) ((bq (aj c 2).toInt 0)==((aj c 0).toInt==5))
@[simp] theorem Cf (ρ):fM ρ=some [.bool (IB (nth ρ 0))]:=by
 simp only [fM,IB]; grind [aq,aA,ak]
@[simp] theorem J4 (ρ):jy ρ=some [.bool (IB (nth ρ 0))]:=by
 simp only [jy,IB]; grind [aq,aA,ak]
def IC (m:PV):Bool:=ZH m&&(aj m 2).toList.all IB
theorem zo (ρ) (w:Wf (nth ρ 0)):gF ρ=some [.bool (IC (nth ρ 0))]:=by
 simp only [gF,Iz,an,aA,ak];rw [dx _ (w.aj 2).len _ (fun c=> !IB c)]
 ·simp only [IC,List.all_eq_not_any_not,aA,toInt_int]
  grind [aq,aA,ak,bE]
 ·intro i hi hm
  simp only [aA,toInt_int,aB hi,au,lU,Cf,an,ak]
  grind [aq,ay,andThen,aA,ak]
 ·intro i; simp [bE]
theorem LF (ρ) (w:Wf (nth ρ 0)):n_ ρ=some [.bool (IC (nth ρ 0))]:=by
 simp only [n_,SK,an,aA,ak];rw [aY _ (w.aj 2).len [] _ _ [.bool false] IB]
 ·simp only [IC]; grind [aq,aA,ak]
 ·intro i hi hm
  simp only [aA,toInt_int,aB hi,au,J4,an,ak]
  grind [aq,ay,andThen,aA,ak]
def Y1 (c k:Int):Bool:=cond (c==1) (k==1||k==5) (cond (c==2) (k==1||(k==5||k==2)) (c==3))
def E1 (m:PV) (c:Int) (p:PV):Bool:=D6 m p&&Y1 c (aj (V7 m p) 0).toInt
theorem NB (ρ):l7 ρ=some [.bool (E1 (nth ρ 0) (nth ρ 1).toInt (nth ρ 2))]:=by
 simp only [l7,aaJ,an,aA,aQ,ak,E1,Y1]
 grind [aq,aA,ak]
theorem D7 (ρ):gu ρ=some [.bool (E1 (nth ρ 0) (nth ρ 1).toInt (nth ρ 2))]:=by
 simp only [gu,QD,an,aA,aQ,ak,E1,Y1,Ai];generalize (nth ρ 1).toInt=c;generalize (aj (V7 (nth ρ 0) (nth ρ 2)) 0).toInt=k;cases D6 (nth ρ 0) (nth ρ 2) with
 |false=>rfl
 |true=>
  by_cases h1:c<1
  ·simp [aK,h1,show ¬ c=1 by omega,show ¬ c=2 by omega,show ¬ c=3 by omega]
  ·by_cases h2:c>3
   ·simp [aK,bq,h1,h2,show ¬ c=1 by omega,show ¬ c=2 by omega,show ¬ c=3 by omega]
   ·by_cases h3:k<0
    ·obtain h|h|h:c=1∨c=2∨c=3:=by omega
     all_goals subst h; simp [aK,bq,bE,show ¬ 0≤k by omega,show ¬ k=1 by omega,show ¬ k=5 by omega,show ¬ k=2 by omega]
    ·by_cases h4:k≥6
     ·obtain h|h|h:c=1∨c=2∨c=3:=by omega
      all_goals subst h; simp [aK,bq,bE,show 0≤k by omega,show ¬ k<6 by omega,show ¬ k=1 by omega,show ¬ k=5 by omega,show ¬ k=2 by omega]
     ·obtain hc|hc|hc:c=1∨c=2∨c=3:=by omega
      all_goals
       obtain hk|hk|hk|hk|hk|hk:k=0∨k=1∨k=2∨k=3∨k=4∨k=5:=by omega
       all_goals subst hc; subst hk; rfl
end
end Go.Sy.V
namespace Go.Sy.V
open PV Go.Sy
noncomputable section
theorem vu {R:Type} (n:Nat) (hn:n≤aN) (S:Nat→PV) (B:List PV→Option (List PV ⊕ R)) (E:Option R) (step:Nat→Option R)
  (hB: ∀ i:Nat,i<n→B [S i, .int i]=some (match step i with|some r=> .inr r|none=> .inl [S (i+1), .int (IntKind.i64.wrap (i+1))])) (a:PV) (ha:S 0=a):
  iter (fun ρ=>cond (aK (nth ρ 1).toInt (n:Int)) (B ρ) (ay E)) [a, .int 0]=scan (fun i=>(step i).map some) E n 0:=by
 have hw: ∀ i:Nat,i<n→IntKind.i64.wrap ((i:Int)+1)=((i+1:Nat):Int):=by
  intro i hi; rw [wrap_i64 (by omega) (by simp only [aN] at hn; omega)]; simp
 have key: ∀ k i:Nat,i+k=n→iter (fun ρ=>cond (aK (nth ρ 1).toInt (n:Int)) (B ρ) (ay E)) [S i, .int i]=scan (fun i=>(step i).map some) E k i:=by
  intro k;induction k with
  |zero=>intro i e; rw [b_]; simp [scan,iQ (show ¬ i<n by omega)]; cases E<;>rfl
  |succ k ih=>
   intro i e;rw [b_];have hi:i<n:=by omega
   simp only [aQ,toInt_int,e_ hi,cond_true,hB i hi,scan];cases step i with
   |some r=>rfl
   |none=>simp only [aR,hw i hi]; exact ih (i+1) (by omega)
 subst ha;simpa using key n 0 (by omega)
def aZ (b:Nat→Bool) (k i:Nat):Bool:=scan (fun i=>cond (b i) none (some false)) true k i
theorem dS {R:Type} (b:Nat→Bool) (E:Option R) (r:R) (k i:Nat):scan (fun i=>(cond (b i) none (some r)).map some) E k i=cond (aZ b k i) E (some r):=by
 unfold aZ;induction k generalizing i with
 |zero=>rfl
 |succ k ih=>
  simp only [scan];cases b i with
  |true=>exact ih (i+1)
  |false=>rfl
theorem E2 {a b:Nat→Bool} {k i:Nat} (h: ∀ j,i≤j→j<i+k→a j=b j):aZ a k i=aZ b k i:=
 Il k i (fun j h1 h2=>by rw [h j h1 h2])
theorem Y2 (L:List PV) (key:PV→ByteArray):DY L key=aZ (fun i=>strLt (key (rd L (i - 1:Nat))) (key (rd L i))) (L.length - 1) 1:=rfl
theorem SM (b:Nat→Bool) (n:Nat) (h0:b 0=true):aZ b n 0=aZ b (n - 1) 1:=by
 cases n with
 |zero=>rfl
 |succ n=>simp only [aZ,scan,h0,Nat.add_sub_cancel]; rfl
@[simp] theorem pL (ρ):cA ρ=some [.bool (mB (nth ρ 0).toInt (nth ρ 1).toInt (nth ρ 2).toInt)]:=by
 simp only [cA,mB]; grind [aq,aA,ak]
def Ux (id:Int) (p:PV):Bool:=(aj p 0).toInt==id
def zP:PV:= .agg [.int 0, .int 0, .int 0, .int 0, .list [], .bool false]
def plF (g:PV) (id:Int):PV:=((aj g 11).toList.find? (Ux id)).getD zP
def SN (g:PV) (id:Int):Bool:=((aj g 11).toList.find? (Ux id)).isSome
theorem vw (g:PV) (id:Int) (w:Wf g):fU [g, .int id]=some [plF g id, .bool (SN g id)]:=by
 simp only [fU,aA,aQ,toInt_int];rw [fV _ (w.aj 11).len _ _ _ (fun u=>[u, .bool true]) (Ux id)]
 ·unfold plF SN zP
  cases e:(aj g 11).toList.find? (Ux id) with
  |none=>rfl
  |some u=>rfl
 ·intro i hi hm
  simp only [aA,aQ,bJ,ga,kW,mH,oh,toInt_int,ak,aE,aB hi,au,Ux,dY];cases (aj (rd (aj g 11).toList i) 0).toInt==id<;>rfl
theorem AB (g:PV) (id:Int) (w:Wf g):iM [g, .int id]=some [plF g id, .bool (SN g id)]:=by
 simp only [iM,aA,aQ,toInt_int];rw [fV _ (w.aj 11).len _ _ _ (fun u=>[u, .bool true]) (Ux id)]
 ·unfold plF SN zP
  cases e:(aj g 11).toList.find? (Ux id) with
  |none=>rfl
  |some u=>rfl
 ·intro i hi hm
  simp only [aA,aQ,bJ,ga,kW,mH,oh,toInt_int,ak,aE,aB hi,au,Ux,dY];cases (aj (rd (aj g 11).toList i) 0).toInt==id<;>rfl
def aP (g:PV):PV:=aJ g 5 3
def xL (g:PV):PV:=aJ g 8 3
def dn (L:List PV) (i:Nat):Int:=if i=0 then 0 else (aj (rd L (i - 1:Nat)) 0).toInt
def Uy (p:PV):Bool:=mB (aj p 0).toInt 1 6&&(mB (aj p 1).toInt 1 6&&(mB (aj p 2).toInt 0 1000000&&mB (aj p 3).toInt 0 1000000))
def ID (g:PV) (i:Nat):Option (List PV):=
 cond (!Uy (rd (aj g 11).toList i)) (some [.int 1]) (cond (cI (aj (rd (aj g 11).toList i) 0).toInt (dn (aj g 11).toList i)) (some [.int 13])
  (cond (!y6 (aj (rd (aj g 11).toList i) 4).toList) (some [.int 13]) (cond (!(aj (rd (aj g 11).toList i) 4).toList.all fun x=>has (aj (aP g) 2).toList x.toStr) (some [.int 8]) none)))
def tR (g:PV):Option (List PV):=cond (!mB ((aj g 11).toList.length:Int) 1 6) (some [.int 2]) (scan (fun i=>(ID g i).map some) (some [.int 0]) (aj g 11).toList.length 0)
theorem J5 (g:PV) (w:Wf g) (h:oA (aP g)) (hl:Rx (aP g)):jC [g]=tR g:=by
 simp only [jC,aA,pL,aQ,bJ,toInt_int,an,ak,tR]
 congr 1
 have hp: ∀ i,Wf (rd (aj g 11).toList i):=fun i=>(w.aj 11).rd i
 rw [vu _ (w.aj 11).len (fun i=> .int (dn (aj g 11).toList i)) _ _ (ID g)]
 ·intro i hi
  simp only [aA,aQ,bJ,toInt_int,aB hi,au,pL,an,ak];rw [bO _ ((hp i).aj 4).len [] _ _ (fun k=>cond (cond (bq k 0) (strLt (rd (aj (rd (aj g 11).toList i) 4).toList (k - 1:Nat)).toStr (rd (aj (rd (aj g 11).toList i) 4).toList k).toStr) true) none (some (.inr [.int 13])))]
  ·rw [dS,SM _ _ (by simp [bq]),aY _ ((hp i).aj 4).len [] _ _ (.inr [.int 8]) (fun x=>has (aj (aP g) 2).toList x.toStr)]
   ·have e1:aZ (fun k=>cond (bq k 0) (strLt (rd (aj (rd (aj g 11).toList i) 4).toList (k - 1:Nat)).toStr (rd (aj (rd (aj g 11).toList i) 4).toList k).toStr) true) ((aj (rd (aj g 11).toList i) 4).toList.length - 1) 1=y6 (aj (rd (aj g 11).toList i) 4).toList:=by
     rw [y6,Y2];exact E2 (fun j h1 _=>by simp [bq,show 0<j by omega])
    rw [e1];have e2:dn (aj g 11).toList (i+1)=(aj (rd (aj g 11).toList i) 0).toInt:=by simp [dn]
    simp only [ID,Uy,e2]
    grind [aq,ay,andThen,aA,ak]
   ·intro j hj hm
    simp only [aA,aQ,toInt_int,aB hj,au];rw [show aJ g 5 3=aP g from rfl,Ir _ _ h hl];simp only [an,aQ,ak]
    grind [aq,ay,andThen,aA,ak]
  ·intro j hj
   simp only [aA,aQ,toInt_int,aB hj,au];by_cases h0:j=0
   ·subst h0; simp [bq]
   ·rw [eV (by omega) hj ((hp i).aj 4).len,aB (show j - 1<(aj (rd (aj g 11).toList i) 4).toList.length by omega)]
    simp only [au,show bq (j:Int) 0=true from by simp [bq]; omega,cond_true]
    grind [aq,ay,andThen,aA,ak]
 ·simp [dn]
end
end Go.Sy.V
namespace Go.Sy.V
open PV Go.Sy
noncomputable section
theorem QE (g:PV) (w:Wf g) (h:oA (aP g)):nM [g]=tR g:=by
 simp only [nM,aA,tR];have hb: ∀ a b:Bool, ∀ x:Option (List PV),(aq (cond a (some (.inl [PV.bool true])) (some (.inl [PV.bool b]))) fun b9=>cond ((nth b9 0).toBool) (some [PV.int 2]) x)=cond (a||b) (some [.int 2]) x:=by
  intro a b x; cases a<;>cases b<;>rfl
 rw [hb];have hc:(aK ((aj g 11).toList.length:Int) 1||bq ((aj g 11).toList.length:Int) 6)= !mB ((aj g 11).toList.length:Int) 1 6:=by
  simp only [mB]; grind [aK,bq,cI,bE]
 rw [hc]
 congr 1
 have hp: ∀ i,Wf (rd (aj g 11).toList i):=fun i=>(w.aj 11).rd i
 rw [bO _ (w.aj 11).len [] _ _ (ID g)];intro i hi;simp only [aA,toInt_int,aB hi,au];rw [Aw _ ((hp i).aj 4).len [] _ _ (fun k=>cond (strLt (rd (aj (rd (aj g 11).toList i) 4).toList (k - 1:Nat)).toStr (rd (aj (rd (aj g 11).toList i) 4).toList k).toStr) none (some (.inr [.int 13])))]
 ·rw [dS,aY _ ((hp i).aj 4).len [] _ _ (.inr [.int 8]) (fun x=>has (aj (aP g) 2).toList x.toStr)]
  ·have e1:aZ (fun k=>strLt (rd (aj (rd (aj g 11).toList i) 4).toList (k - 1:Nat)).toStr (rd (aj (rd (aj g 11).toList i) 4).toList k).toStr) ((aj (rd (aj g 11).toList i) 4).toList.length - 1) 1=y6 (aj (rd (aj g 11).toList i) 4).toList:=rfl
   rw [e1];have e3:Uy (rd (aj g 11).toList i)= !(aK (aj (rd (aj g 11).toList i) 0).toInt 1||(bq (aj (rd (aj g 11).toList i) 0).toInt 6||(aK (aj (rd (aj g 11).toList i) 1).toInt 1||(bq (aj (rd (aj g 11).toList i) 1).toInt 6||(aK (aj (rd (aj g 11).toList i) 2).toInt 0||(bq (aj (rd (aj g 11).toList i) 2).toInt 1000000||(aK (aj (rd (aj g 11).toList i) 3).toInt 0||bq (aj (rd (aj g 11).toList i) 3).toInt 1000000))))))):=by
    simp only [Uy,mB]; grind [aK,bq,cI,bE]
   simp only [ID,e3];by_cases h0:i=0
   ·subst h0
    have e4:bE (aj (rd (aj g 11).toList (0:Nat)) 0).toInt 1=true→cI (aj (rd (aj g 11).toList (0:Nat)) 0).toInt (dn (aj g 11).toList 0)=false:=by
     simp only [dn,if_true,cI,bE]; grind
    have e5:bE (aj (rd (aj g 11).toList (0:Nat)) 0).toInt 1= !aK (aj (rd (aj g 11).toList (0:Nat)) 0).toInt 1:=by simp only [bE,aK]; grind
    rw [e5] at e4;simp only [show bq ((0:Nat):Int) 0=false from rfl,cond_false,aR,aA,ak];clear e1 e3;generalize rd (aj g 11).toList ((0:Nat):Int)=p at*;simp only [gN,mh,gO,je,fA,Bool.cond_true_left,aR,aA,ak,Bool.not_not];cases h1:aK (aj p 0).toInt 1 with
    |true=>rfl
    |false=>
    rw [e4 (by rw [h1]; rfl)];simp only [Bool.false_or];generalize (bq (aj p 0).toInt 6||_)=bad
    grind [aq,ay,andThen,aA,ak]
   ·rw [eV (by omega) hi (w.aj 11).len,aB (show i - 1<(aj g 11).toList.length by omega)]
    have e2:dn (aj g 11).toList i=(aj (rd (aj g 11).toList (i - 1:Nat)) 0).toInt:=by simp [dn,h0]
    simp only [au,show bq (i:Int) 0=true from by simp [bq]; omega,cond_true,e2];clear e1 e3;simp only [gN,mh,gO,je,fA,Bool.cond_true_left,aR,aA,ak,Bool.not_not];generalize (aK (aj (rd (aj g 11).toList i) 0).toInt 1||_)=bad
    grind [aq,ay,andThen,aA,ak]
  ·intro j hj hm
   simp only [aA,aQ,toInt_int,aB hj,au];rw [show aJ g 5 3=aP g from rfl,Is _ _ h];simp only [an,aQ,ak]
   grind [aq,ay,andThen,aA,ak]
 ·intro j hj h1
  simp only [aA,aQ,toInt_int,aB hj,au];rw [eV (by omega) hj ((hp i).aj 4).len,aB (show j - 1<(aj (rd (aj g 11).toList i) 4).toList.length by omega)];simp only [au]
  grind [aq,ay,andThen,aA,ak]
def QF (x:PV):Bool:=mB (aj x 0).toInt 1 6&&(mB (aj x 1).toInt 1 1099511627776&&(mB (aj x 2).toInt 1 1048576&&(eN (aj x 3).toStr&&(mB (aj x 4).toInt 0 100000&&(AA (aJ x 5 2)&&AA (aJ x 7 2))))))
theorem QG (x:PV) (w:Wf x):nH [x]=some [.bool (QF x)]:=by
 simp only [nH,aA,jQ _ (w.aj 3).size,an,ak,yS,QF,mB]
 grind [aq,aA,ak]
theorem V8 (x:PV) (w:Wf x):rQ [x]=some [.bool (QF x)]:=by
 simp only [rQ,aA,xI _ (w.aj 3).size,an,ak,yT,QF,mB]
 grind [aq,aA,ak,aK,bq,cI,bE]
def xM (g x:PV):Option (List PV):=cond (!QF x) (some [.int 1]) (cond (has (aj (aP g) 1).toList (aj x 3).toStr&&SN g (aj x 0).toInt) none (some [.int 8]))
def D8 (g:PV):Option (List PV):=cond (bq ((aj g 13).toList.length:Int) 64) (some [.int 2]) (((aj g 13).toList.findSome? fun x=>(xM g x).map some).getD (some [.int 0]))
theorem Cg (g:PV) (w:Wf g) (h:oA (aP g)):fN [g]=D8 g:=by
 simp only [fN,aA,D8]
 congr 1
 rw [vq _ (w.aj 13).len [] _ _ (xM g)];intro i hi hm;simp only [aA,toInt_int,aB hi,au,QG _ ((w.aj 13).mem hm),an,ak,vw _ _ w,aQ];rw [show aJ g 5 3=aP g from rfl,Nu _ _ h];simp only [an,aQ,ak,xM]
 grind [aq,ay,andThen,aA,ak]
theorem V9 (g:PV) (w:Wf g) (h:oA (aP g)):rR [g]=D8 g:=by
 simp only [rR,aA,D8]
 congr 1
 rw [vq _ (w.aj 13).len [] _ _ (xM g)];intro i hi hm;simp only [aA,toInt_int,aB hi,au,V8 _ ((w.aj 13).mem hm),an,ak,AB _ _ w,aQ];rw [show aJ g 5 3=aP g from rfl,SE _ _ h];simp only [an,aQ,ak,xM]
 grind [aq,ay,andThen,aA,ak]
def aaK (g:PV):Bool:=((aj g 2).toInt==0||(aj g 2).toInt==(-1)||(aj g 11).toList.any fun p=>(aj p 1).toInt==(aj g 2).toInt)&&(mB (aj g 0).toInt 0 1048576&&mB (aj g 1).toInt 1 1099511627776)
theorem Uz {R:Type} (L:List PV) (hn:L.length≤aN) (B:List PV→Option (List PV ⊕ R)) (E:List PV→Option R) (p:PV→Bool) (b:Bool)
  (hB: ∀ i:Nat,i<L.length→rd L i∈L→ ∀ b,B [.bool b, .int i]=some (.inl [.bool (b||p (rd L i)), .int (IntKind.i64.wrap (i+1))])):
  iter (fun ρ=>cond (aK (nth ρ 1).toInt (L.length:Int)) (B ρ) (ay (E ρ))) [.bool b, .int 0]=E [.bool (b||L.any p), .int L.length]:=by
 rw [tP L hn B E (fun a x=> .bool (a.toBool||p x)) (fun _ a=> ∃ b,a= .bool b) (fun i hi a _=>⟨_,rfl⟩) (fun i hi hm a ⟨b,e⟩=>by rw [e]; exact hB i hi hm b) _ ⟨b,rfl⟩];have: ∀ (L:List PV) b,L.foldl (fun a x=>PV.bool (a.toBool||p x)) (PV.bool b)=PV.bool (b||L.any p):=by
  intro L;induction L with
  |nil=>intro b; simp
  |cons a l ih=>intro b; simp only [List.foldl_cons,ih,ak,List.any_cons,Bool.or_assoc]
 rw [this]
theorem Ch (a b:Bool) {R:Type} (k:List PV→Option R):aq (cond a (some (.inl [PV.bool true])) (some (.inl [PV.bool b]))) k=k [.bool (a||b)]:=by cases a<;>rfl
theorem IE (g:PV) (w:Wf g):iN [g]=some [.int (cond (aaK g) 0 1)]:=by
 simp only [iN,aA,Ch,ak];rw [Uz _ (w.aj 11).len _ _ (fun p=>(aj p 1).toInt==(aj g 2).toInt)]
 ·simp only [aA,aQ,bJ,toInt_int,ak,pL,an,aaK]
  generalize (List.any _ _)=a
  grind [aq,aA,ak]
 ·intro i hi hm b
  simp only [aA,aQ,toInt_int,aB hi,au,Ch,ak]
def QH (g s:PV):Bool:=SN g (aj s 1).toInt&&(has (aj (aP g) 0).toList (aj s 2).toStr&&((aj (uh (aj (aP g) 0).toList (aj s 2).toStr) 1).toBool&&(bE (aj s 0).toInt 1&&(aK (aj s 0).toInt (aj g 1).toInt&&(AA (aJ s 3 2)&&mB (aj s 5).toInt 1 100000)))))
def LG (g:PV) (L:List PV) (i:Nat):Bool:=QH g (rd L i)&&bq (aj (rd L i) 0).toInt (dn L i)
def Y3 (g:PV) (i:Nat):Bool:=((aj (rd (aj g 14).toList i) 0).toInt==(aj (rd (aj g 11).toList i) 0).toInt&&(((aj (rd (aj g 14).toList i) 1).toList.length:Int)==((aj g 10).toList.length:Int)))&&aZ (LG g (aj (rd (aj g 14).toList i) 2).toList) (aj (rd (aj g 14).toList i) 2).toList.length 0
def V_ (g:PV):Bool:=(((aj g 14).toList.length:Int)==((aj g 11).toList.length:Int))&&aZ (Y3 g) (aj g 14).toList.length 0
theorem J6 (g s:PV) (l:Int) (w:Wf g) (h:oA (aP g)) (hl:Rx (aP g)):jB [g,s, .int l]=some [.bool (QH g s&&bq (aj s 0).toInt l)]:=by
 simp only [jB,aA,aQ,bJ,toInt_int,vw _ _ w];rw [show aJ g 5 3=aP g from rfl,jR _ _ h hl];simp only [an,aA,aQ,bJ,toInt_int,ak,yS,pL,QH,Ca,cU]
 grind [aq,aA,ak]
theorem IF (g:PV) (w:Wf g) (h:oA (aP g)) (hl:Rx (aP g)):iO [g]=some [.int (cond (V_ g) 0 1)]:=by
 simp only [iO,aA,V_];have hm: ∀ i,Wf (rd (aj g 14).toList i):=fun i=>(w.aj 14).rd i
 cases hlen:(((aj g 14).toList.length:Int)==((aj g 11).toList.length:Int)) with
 |false=>simp only [bne,hlen]; rfl
 |true=>
 have hlen':(aj g 14).toList.length=(aj g 11).toList.length:=by have:=beq_iff_eq.1 hlen; omega
 simp only [bne,hlen,Bool.not_true,cond_false,Bool.true_and];rw [bO _ (w.aj 14).len [] _ _ (fun i=>cond (Y3 g i) none (some [.int 1]))]
 ·rw [dS]; cases aZ _ _ _<;>rfl
 ·intro i hi
  simp only [aA,toInt_int,aB hi,au,aB (show i<(aj g 11).toList.length by omega)];rw [vu _ ((hm i).aj 2).len (fun j=> .int (dn (aj (rd (aj g 14).toList i) 2).toList j)) _ _ (fun j=>cond (LG g (aj (rd (aj g 14).toList i) 2).toList j) none (some (.inr [.int 1])))]
  ·rw [dS]
   simp only [Y3];generalize aZ _ _ _=a
   grind [aq,ay,andThen,aA,ak]
  ·intro j hj
   simp only [aA,aQ,toInt_int,aB hj,au,J6 _ _ _ w h hl,an,ak];have e2:dn (aj (rd (aj g 14).toList i) 2).toList (j+1)=(aj (rd (aj (rd (aj g 14).toList i) 2).toList j) 0).toInt:=by simp [dn]
   simp only [LG,e2]
   grind [aq,ay,andThen,aA,ak]
  ·simp [dn]
theorem NC (g:PV) (w:Wf g) (h:oA (aP g)) (hf:ZH (xL g)=true):l9 [g]=some [.bool (V_ g)]:=by
 simp only [l9,aA,V_];have hm: ∀ i,Wf (rd (aj g 14).toList i):=fun i=>(w.aj 14).rd i
 have hcells:((aj g 10).toList.length:Int)=IntKind.i64.wrap ((aj g 8).toInt*(aj g 9).toInt):=by
  simp only [ZH,xL,Bool.and_eq_true,beq_iff_eq] at hf;rw [fB _ _ _ _ (by omega),fB _ _ _ _ (by omega),fB _ _ _ _ (by omega)] at hf;exact hf.2
 rw [← hcells];cases hlen:(((aj g 14).toList.length:Int)==((aj g 11).toList.length:Int)) with
 |false=>simp only [bne,hlen]; rfl
 |true=>
 have hlen':(aj g 14).toList.length=(aj g 11).toList.length:=by have:=beq_iff_eq.1 hlen; omega
 simp only [bne,hlen,Bool.not_true,cond_false,Bool.true_and];rw [bO _ (w.aj 14).len [] _ _ (fun i=>cond (Y3 g i) none (some [.bool false]))]
 ·rw [dS]; cases aZ _ _ _<;>rfl
 ·intro i hi
  simp only [aA,toInt_int,aB hi,au,aB (show i<(aj g 11).toList.length by omega)];rw [bO _ ((hm i).aj 2).len [] _ _ (fun j=>cond (LG g (aj (rd (aj g 14).toList i) 2).toList j) none (some (.inr [.bool false])))]
  ·rw [dS]
   simp only [Y3];generalize aZ _ _ _=a
   grind [aq,ay,andThen,aA,ak]
  ·intro j hj
   simp only [aA,aQ,toInt_int,aB hj,au,AB _ _ w];rw [show aJ g 5 3=aP g from rfl,jf _ _ h];simp only [an,aA,aQ,ak,yT,Iu];have e6:mB (aj (rd (aj (rd (aj g 14).toList i) 2).toList j) 5).toInt 1 100000= !(aK (aj (rd (aj (rd (aj g 14).toList i) 2).toList j) 5).toInt 1||bq (aj (rd (aj (rd (aj g 14).toList i) 2).toList j) 5).toInt 100000):=by simp only [mB]; grind [aK,bq,cI,bE]
   have e7: ∀ a b:Int,bE a b= !aK a b:=by intro a b; simp only [bE,aK]; grind
   have e8: ∀ a b:Int,bq a b= !cI a b:=by intro a b; simp only [bq,cI]; grind
   by_cases h0:j=0
   ·subst h0
    have e9:aK (aj (rd (aj (rd (aj g 14).toList i) 2).toList (0:Nat)) 0).toInt 1=false→cI (aj (rd (aj (rd (aj g 14).toList i) 2).toList (0:Nat)) 0).toInt 0=false:=by simp only [cI,aK]; grind
    simp only [LG,QH,e6,e7 _ 1,e8 _ (dn _ _),show dn (aj (rd (aj g 14).toList i) 2).toList 0=0 from rfl,show bq ((0:Nat):Int) 0=false from rfl,e7 _ (aj g 1).toInt,cond_false];clear e6;generalize rd (aj (rd (aj g 14).toList i) 2).toList ((0:Nat):Int)=p at*;rw [e8 (aj p 0).toInt 0];simp only [gN,mh,gO,je,fA,Bool.cond_true_left,aR,aA,ak,Bool.not_not,dY,Qs];cases h1:aK (aj p 0).toInt 1 with
    |true=>grind
    |false=>
    rw [e9 h1];clear e7 e8 e9;generalize (aK (aj p 5).toInt 1||_)=bad
    grind [aq,ay,andThen,aA,ak]
   ·rw [eV (by omega) hj ((hm i).aj 2).len,aB (show j - 1<(aj (rd (aj g 14).toList i) 2).toList.length by omega)]
    have e2:dn (aj (rd (aj g 14).toList i) 2).toList j=(aj (rd (aj (rd (aj g 14).toList i) 2).toList (j - 1:Nat)) 0).toInt:=by simp [dn,h0]
    simp only [au,show bq (j:Int) 0=true from by simp [bq]; omega,cond_true,LG,QH,e6,e7 _ 1,e2,e8 _ (aj (rd (aj (rd (aj g 14).toList i) 2).toList (j - 1:Nat)) 0).toInt,e7 _ (aj g 1).toInt];clear e6 e7 e8;generalize rd (aj (rd (aj g 14).toList i) 2).toList (j:Int)=p at*;simp only [gN,mh,gO,je,fA,Bool.cond_true_left,aR,aA,ak,Bool.not_not,dY,Qs];generalize (aK (aj p 5).toInt 1||_)=bad;generalize aK (aj p 0).toInt 1=b1;generalize aK (aj p 0).toInt (aj g 1).toInt=b2;generalize cI (aj p 0).toInt _=b3;cases SN g (aj p 1).toInt<;>cases has (aj (aP g) 0).toList (aj p 2).toStr<;>cases (aj (uh (aj (aP g) 0).toList (aj p 2).toStr) 1).toBool<;>cases b1<;>cases b2<;>cases b3<;>cases AA (aJ p 3 2)<;>cases bad<;>rfl
end
end Go.Sy.V
namespace Go.Sy.V
open PV Go.Sy
noncomputable section
def ND (a b:PV):PV:= .agg [.int (jE (IntKind.i64.wrap (jE (aj a 0).toInt - jE (aj b 0).toInt))), .int (jE (IntKind.i64.wrap (jE (aj a 1).toInt - jE (aj b 1).toInt)))]
def Y4 (a:PV):Int:=IntKind.i64.wrap (IntKind.i64.wrap (jE (aj a 0).toInt*jE (aj a 0).toInt)+IntKind.i64.wrap (jE (aj a 1).toInt*jE (aj a 1).toInt))
theorem UA (a b:PV):tL [a,b]=some [ND a b]:=by
 simp [tL,ND,Ce]
theorem UB (a b:PV):tK [a,b]=some [ND a b]:=by
 have c0:=Ay (aj a 0).toInt; have c0':=Az (aj a 0).toInt;have c1:=Ay (aj a 1).toInt; have c1':=Az (aj a 1).toInt;have d0:=Ay (aj b 0).toInt; have d0':=Az (aj b 0).toInt;have d1:=Ay (aj b 1).toInt; have d1':=Az (aj b 1).toInt;simp only [tK,E0,an,aA,aQ,xD,Ce,cU,toInt_int];simp only [DV,aA,aE];rw [b_];simp only [aA,aQ,bJ,toInt_int,List.length_cons,List.length_nil,show aK 0 ((0+1+1:Nat):Int)=true from rfl,show bp 0 (0+1+1)=true from rfl,cond_true,au,aR];rw [b_];simp only [aA,aQ,bJ,toInt_int,show IntKind.i64.wrap (0+1)=1 from rfl,show aK 1 ((0+1+1:Nat):Int)=true from rfl,show bp 1 (0+1+1)=true from rfl,cond_true,au,aR];rw [b_];simp only [aA,aQ,bJ,toInt_int,show IntKind.i64.wrap (1+1)=2 from rfl,show aK 2 ((0+1+1:Nat):Int)=false from rfl,cond_false,E0,an,dY,VL];simp only [rd,show (0:Int).toNat=0 from rfl,show (1:Int).toNat=1 from rfl,List.getD_cons_zero,List.getD_cons_succ,cU,aA,aQ,toInt_int,Ce,ND];rw [wrap_i64 (n:=0+jE (aj a 0).toInt) (by omega) (by omega),wrap_i64 (n:=0+jE (aj a 1).toInt) (by omega) (by omega),wrap_i64 (n:=0 - jE (aj b 0).toInt) (by omega) (by omega),wrap_i64 (n:=0 - jE (aj b 1).toInt) (by omega) (by omega)];rw [show 0+jE (aj a 0).toInt+(0 - jE (aj b 0).toInt)=jE (aj a 0).toInt - jE (aj b 0).toInt by omega,show 0+jE (aj a 1).toInt+(0 - jE (aj b 1).toInt)=jE (aj a 1).toInt - jE (aj b 1).toInt by omega]
theorem Y5 (a:PV):vc [a]=some [.int (Y4 a)]:=by
 simp [vc,DU,DT,Ce,Y4]
theorem Y6 (a:PV):vk [a]=some [.int (Y4 a)]:=by
 simp [vk,DW,Ce,Y4]
def Wa (x:Int):Int:=jL 0 (mR x 1048576)
def vS (a b:PV):Bool:= !(((aj a 1).toInt==3) != ((aj b 1).toInt==3))&&aK (Y4 (ND (aJ a 3 2) (aJ b 3 2))) (IntKind.i64.wrap (IntKind.i64.wrap (Wa (aj a 2).toInt+Wa (aj b 2).toInt)*IntKind.i64.wrap (Wa (aj a 2).toInt+Wa (aj b 2).toInt)))
theorem J7 (a b:PV):jq [a,b]=some [.bool (vS a b)]:=by
 simp only [jq,lM,V1,an,aA,aQ,bJ,toInt_int,UB,Y5,vS,Wa];cases (((aj a 1).toInt==3) != ((aj b 1).toInt==3))<;>rfl
theorem QI (a b:PV):nK [a,b]=some [.bool (vS a b)]:=by
 simp only [nK,V2,an,aA,aQ,bJ,toInt_int,UA,Y6,vS,Wa];cases (((aj a 1).toInt==3) != ((aj b 1).toInt==3))<;>rfl
def SO (L:List PV):Bool:=aZ (fun i=> !(L.take i).any fun b=>vS (rd L i) b) L.length 0
theorem FN (L:List PV) (h:L.length≤4096):gV [.list L]=some [.bool (SO L)]:=by
 simp only [gV,aA,aE];rw [bO _ (le_max h) [] _ _ (fun i=>cond (!(L.take i).any fun b=>vS (rd L i) b) none (some [.bool false]))]
 ·rw [dS]; unfold SO; cases aZ _ _ _<;>rfl
 ·intro i hi
  have hs:sub L 0 (i:Int)=L.take i:=by simp [sub]
  simp only [aA,toInt_int,aB hi,au,hs,Int.toNat_natCast,aB (show i<L.length+1 by omega),show bp 0 (i+1)=true from aB (i:=0) (by omega),Bool.and_self];rw [dx (L.take i) (le_max (by simp; omega)) _ (fun b=>vS (rd L i) b)]
  ·simp only [aA,toInt_int,show bE 0 0=true from rfl,show bE (-1) 0=false from rfl,cond_true,cond_false]
   cases (L.take i).any _<;>rfl
  ·intro j hj hm
   simp only [aA,toInt_int,aB hj,au,J7,an,ak];cases vS _ _<;>rfl
  ·intro j; simp [bE]
theorem IG (L:List PV) (p:PV→Bool) (i:Nat) (h:i≤L.length):aZ (fun k=> !p (rd L k)) i 0= !(L.take i).any p:=by
 have key: ∀ k j,j+k=i→aZ (fun k=> !p (rd L k)) k j= !((L.take i).drop j).any p:=by
  intro k;induction k with
  |zero=>intro j e; simp [aZ,scan,List.drop_eq_nil_of_le (show (L.take i).length≤j by simp; omega)]
  |succ k ih=>
   intro j e;have hj:j<(L.take i).length:=by simp; omega
   rw [List.drop_eq_getElem_cons hj];have e1:rd L j=(L.take i)[j]:=by simp [rd,show j<L.length by omega]
   have:=ih (j+1) (by omega);simp only [aZ,scan,List.any_cons, ←e1] at this ⊢;cases p (rd L j) with
   |true=>rfl
   |false=>simpa using this
 simpa using key i 0 (by omega)
theorem J8 (L:List PV) (h:L.length≤4096):jz [.list L]=some [.bool (SO L)]:=by
 simp only [jz,aA,aE];rw [bO _ (le_max h) [] _ _ (fun i=>cond (!(L.take i).any fun b=>vS (rd L i) b) none (some [.bool false]))]
 ·rw [dS]; unfold SO; cases aZ _ _ _<;>rfl
 ·intro i hi
  simp only [aA,toInt_int];rw [bO i (le_max (by omega)) [] _ _ (fun k=>cond (!vS (rd L i) (rd L k)) none (some (.inr [.bool false])))]
  ·rw [dS,IG L (fun b=>vS (rd L i) b) i (by omega)]
   cases (L.take i).any _<;>rfl
  ·intro j hj
   simp only [aA,toInt_int,aB hi,aB (show j<L.length by omega),au,QI,an,ak];cases vS _ _<;>rfl
@[simp] theorem afW (ρ):ve ρ=some [.int ((nth ρ 0).toInt.fdiv 256)]:=rfl
theorem QJ (x:Int) (h1: -9223372036854775808≤x) (h2:x<18446744073709551616):qm [.int x]=some [.int (x.fdiv 256)]:=by
 have t1:=Int.mul_tdiv_add_tmod x 256;have f1:=Int.mul_fdiv_add_fmod x 256;have f2:0≤x.fmod 256:=Int.fmod_nonneg_of_pos x (by omega);have f3:x.fmod 256<256:=Int.fmod_lt_of_pos x (by omega);have t2:x.tmod 256<256:=Int.tmod_lt_of_pos x (by omega);have t3: -256<x.tmod 256:=by have:=Int.lt_tmod_of_pos x (show (0:Int)<256 by omega); omega
 have t4:0≤x→0≤x.tmod 256:=fun h=>Int.tmod_nonneg 256 h
 have t5:x≤0→x.tmod 256≤0:=fun h=>by
  have:=Int.tmod_nonneg 256 (show 0≤ -x by omega);rw [Int.neg_tmod] at this; omega
 simp only [qm,DX,aA,aQ,toInt_int];simp only [show ((256:Int)==0)=false from rfl,show ((256:Int)== -1)=false from rfl,cond_false,Bool.not_false,au,gN,mh,gO,je,fA,aR,aA,ak,show aK 256 0=false from rfl];rw [wrap_i64 (n:=x.tdiv 256) (by omega) (by omega)];cases hx:(x==(-9223372036854775808))<;>simp only [cond_true,cond_false,toInt_int,an,aA]
 all_goals
  by_cases h0:x.tmod 256=0
  ·simp only [h0,show ((0:Int) != 0)=false from rfl,cond_false,VM]
   simp;omega
  ·by_cases h3:x.tmod 256<0
   ·have hb:(x.tmod 256 != 0)=true:=by simp [h0]
    have hl:(aK (x.tmod 256) 0)=true:=by simp [aK,h3]
    rw [wrap_i64 (by omega) (by omega)];simp only [hb,hl,cond_true,show (true != false)=true from rfl,Option.some.injEq,List.cons.injEq,PV.int.injEq,and_true,toInt_int]; omega
   ·have hb:(x.tmod 256 != 0)=true:=by simp [h0]
    have hl:(aK (x.tmod 256) 0)=false:=by simp [aK]; omega
    simp only [hb,hl,cond_true,cond_false,show (false != false)=false from rfl,Option.some.injEq,List.cons.injEq,PV.int.injEq,and_true,toInt_int]; omega
end
end Go.Sy.V
namespace Go.Sy.V
open PV Go.Sy
noncomputable section
def oB (o:PV):Bool:=
 let k:=(aj o 0).toInt
 cond (k==1||(k==3||k==6)) (AA (aJ o 1 2)&&((aj o 3).toInt==0&&aM (aj o 4).toStr em))
 (cond (k==2) (((aj o 1).toInt==0&&((aj o 2).toInt==0&&true))&&(mB (aj o 3).toInt 1 1099511627776&&aM (aj o 4).toStr em))
 (cond (k==4) (AA (aJ o 1 2)&&((aj o 3).toInt==0&&eN (aj o 4).toStr))
 (cond (k==5) (((aj o 1).toInt==0&&((aj o 2).toInt==0&&true))&&((aj o 3).toInt==0&&aM (aj o 4).toStr em)) false)))
theorem NF (o:PV) (w:Wf o):lR [o]=some [.bool (oB o)]:=by
 simp only [lR,aA,yS,jQ _ (w.aj 4).size,an,ak,show ((0:Int)==0)=true from rfl,show aM (ByteArray.mk #[]) (ByteArray.mk #[])=true from rfl,Bool.true_and,Bool.and_true,oB,show ByteArray.mk #[]=em from rfl,mB];generalize AA (aJ o 1 2)=v;generalize eN (aj o 4).toStr=nb;generalize aM (aj o 4).toStr em=se;generalize bE _ _=g1;generalize cI _ _=g2;generalize hk:(aj o 0).toInt=k;generalize ((aj o 3).toInt==0)=t0;generalize ((aj o 1).toInt==0)=x0;generalize ((aj o 2).toInt==0)=y0;by_cases h1:k=1
 ·subst h1; cases v<;>cases t0<;>cases se<;>rfl
 by_cases h3:k=3
 ·subst h3; cases v<;>cases t0<;>cases se<;>rfl
 by_cases h6:k=6
 ·subst h6; cases v<;>cases t0<;>cases se<;>rfl
 by_cases h2:k=2
 ·subst h2; cases x0<;>cases y0<;>cases g1<;>cases g2<;>cases se<;>rfl
 by_cases h4:k=4
 ·subst h4; cases v<;>cases t0<;>cases nb<;>rfl
 by_cases h5:k=5
 ·subst h5; cases x0<;>cases y0<;>cases t0<;>cases se<;>rfl
 simp only [beq_eq_false_iff_ne.2 h1,beq_eq_false_iff_ne.2 h2,beq_eq_false_iff_ne.2 h3,beq_eq_false_iff_ne.2 h4,beq_eq_false_iff_ne.2 h5,beq_eq_false_iff_ne.2 h6];rfl
theorem Wb (o:PV) (w:Wf o):rL [o]=some [.bool (oB o)]:=by
 simp only [rL,aA,yT,xI _ (w.aj 4).size,an,ak,oB,show ByteArray.mk #[]=em from rfl,mB,Bool.and_true];generalize AA (aJ o 1 2)=v;generalize eN (aj o 4).toStr=nb;generalize aM (aj o 4).toStr em=se;generalize bE _ _=g1;generalize cI _ _=g2;generalize hk:(aj o 0).toInt=k;generalize ((aj o 3).toInt==0)=t0;generalize ((aj o 1).toInt==0)=x0;generalize ((aj o 2).toInt==0)=y0;by_cases h1:k=1
 ·subst h1; cases v<;>cases t0<;>cases se<;>rfl
 by_cases h3:k=3
 ·subst h3; cases v<;>cases t0<;>cases se<;>rfl
 by_cases h6:k=6
 ·subst h6; cases v<;>cases t0<;>cases se<;>rfl
 by_cases h2:k=2
 ·subst h2; cases x0<;>cases y0<;>cases g1<;>cases g2<;>cases se<;>rfl
 by_cases h4:k=4
 ·subst h4; cases v<;>cases t0<;>cases nb<;>rfl
 by_cases h5:k=5
 ·subst h5; cases x0<;>cases y0<;>cases t0<;>cases se<;>rfl
 simp only [beq_eq_false_iff_ne.2 h1,beq_eq_false_iff_ne.2 h2,beq_eq_false_iff_ne.2 h3,beq_eq_false_iff_ne.2 h4,beq_eq_false_iff_ne.2 h5,beq_eq_false_iff_ne.2 h6];rfl
@[simp] theorem QK (ρ):dM ρ=some [.bool (mB (nth ρ 0).toInt 0 100000)]:=by simp [dM,mB]
@[simp] theorem Y7 (ρ):gx ρ=some [.bool (mB (nth ρ 0).toInt 0 100000)]:=by simp [gx,mB]
def Y8 (j:PV):Bool:=((aj j 0).toInt==1||(aj j 0).toInt==2)&&kX (aj j 1)
def enB (e:PV):Bool:=(AA (aJ e 3 2)&&(!aK (aj e 5).toInt 1&&(kX (aj e 5)&&(kX (aj e 6)&&(kX (aj e 7)&&(kX (aj e 8)&&(kX (aj e 9)&&(!bq ((aj e 10).toList.length:Int) 8&& !bq ((aj e 11).toList.length:Int) 5))))))))&&((aj e 10).toList.all oB&&(aj e 11).toList.all Y8)
theorem II (e:PV) (w:Wf e):iL [e]=some [.bool (enB e)]:=by
 simp only [iL,aA,yS,QK,an,ak,toInt_int];rw [aY _ (w.aj 10).len [] _ _ [.bool false] oB]
 ·rw [aY _ (w.aj 11).len [] _ _ [.bool false] Y8]
  ·simp only [enB,kX]
   generalize List.all _ _=a1;generalize List.all _ _=a2;simp only [gN,mh,gO,je,fA,Bool.cond_true_left,aR,aA,ak,Bool.not_not];simp [Bool.and_assoc]
  ·intro i hi hm
   simp only [aA,toInt_int,aB hi,au,an,ak,Y8,kX];generalize mB _ _ _=b;generalize (aj (rd (aj e 11).toList i) 0).toInt=k;simp only [bne];cases k==1<;>cases k==2<;>cases b<;>rfl
 ·intro i hi hm
  simp only [aA,toInt_int,aB hi,au,NF _ ((w.aj 10).mem hm),an,ak];cases oB _<;>rfl
theorem QL (e:PV) (w:Wf e):nL [e]=some [.bool (enB e)]:=by
 simp only [nL,aA,yT,Y7,an,ak,toInt_int];rw [aY _ (w.aj 10).len [] _ _ [.bool false] oB]
 ·rw [aY _ (w.aj 11).len [] _ _ [.bool false] Y8]
  ·simp only [enB,kX]
   generalize List.all _ _=a1;generalize List.all _ _=a2;simp only [gN,mh,gO,je,fA,Bool.cond_true_left,aR,aA,ak,Bool.not_not];simp [Bool.and_assoc]
  ·intro i hi hm
   simp only [aA,toInt_int,aB hi,au,an,ak,Y8,kX];generalize mB _ _ _=b;generalize (aj (rd (aj e 11).toList i) 0).toInt=k;simp only [bne];cases k==1<;>cases k==2<;>cases b<;>rfl
 ·intro i hi hm
  simp only [aA,toInt_int,aB hi,au,Wb _ ((w.aj 10).mem hm),an,ak];cases oB _<;>rfl
def plI (g:PV) (i:Nat):Bool:= !cI (aj (rd (aj g 12).toList i) 0).toInt (dn (aj g 12).toList i)&&(!bE (aj (rd (aj g 12).toList i) 0).toInt (aj g 1).toInt&&enB (rd (aj g 12).toList i))
def xN (g:PV):Bool:=(vR (aP g)==0&&(IC (xL g)&&(!aK (aj g 1).toInt 1&& !bq (aj g 1).toInt 1099511627776)))&&aZ (plI g) (aj g 12).toList.length 0
theorem NG (g:PV) (w:Wf g) (h:oA (aP g)):lV [g]=some [.bool (xN g)]:=by
 simp only [lV,aA];rw [xK [aJ g 5 3] h (w.aJ 5 3),zo [aJ g 8 3] (w.aJ 8 3)];rw [vu _ (w.aj 12).len (fun j=> .int (dn (aj g 12).toList j)) _ _ (fun i=>cond (plI g i) none (some [.bool false]))]
 ·rw [dS]
  simp only [an,aA,toInt_int,ak,xN,aP,xL];generalize aZ _ _ _=a;generalize vR _=v;generalize IC _=m;simp only [bne]
  grind [aq,aA,ak]
 ·intro i hi
  simp only [aA,aQ,toInt_int,aB hi,au,II _ ((w.aj 12).rd i),an,ak];have e2:dn (aj g 12).toList (i+1)=(aj (rd (aj g 12).toList i) 0).toInt:=by simp [dn]
  simp only [plI,e2];cases cI _ _<;>cases bE _ _<;>cases enB _<;>rfl
 ·simp [dn]
theorem SP (g:PV) (w:Wf g) (h:oA (aP g)):pE [g]=some [.bool (xN g)]:=by
 simp only [pE,aA];rw [Cd [aJ g 5 3] h (w.aJ 5 3),LF [aJ g 8 3] (w.aJ 8 3)];rw [vu _ (w.aj 12).len (fun j=> .int (dn (aj g 12).toList j)) _ _ (fun i=>cond (plI g i) none (some [.bool false]))]
 ·rw [dS]
  simp only [an,aA,toInt_int,ak,xN,aP,xL];generalize aZ _ _ _=a;generalize vR _=v;generalize IC _=m;simp only [bne]
  grind [aq,aA,ak]
 ·intro i hi
  simp only [aA,aQ,toInt_int,aB hi,au,QL _ ((w.aj 12).rd i),an,ak];have e2:dn (aj g 12).toList (i+1)=(aj (rd (aj g 12).toList i) 0).toInt:=by simp [dn]
  simp only [plI,e2];cases cI _ _<;>cases bE _ _<;>cases enB _<;>rfl
 ·simp [dn]
end
end Go.Sy.V
namespace Go.Sy.V
open PV Go.Sy
noncomputable section
theorem LH (L:List PV) (s) (k:Nat) (hk:(aj zU k).toInt=0):(aj (YN L s zU) k).toInt=(aj (uh L s) k).toInt:=by
 unfold YN uh; cases L.find? (mE s) with
 |none=>rw [Option.getD_none,Option.getD_none,hk]; rfl
 |some u=>rfl
def uj (g e:PV):PV:=uh (aj (aP g) 0).toList (aj e 2).toStr
def IJ (g e:PV):Bool:=has (aj (aP g) 0).toList (aj e 2).toStr
def jkB (g j:PV):Bool:= !(((aj j 0).toInt==1)&&(!has (aj (aP g) 0).toList (aj j 2).toStr||(aj (uh (aj (aP g) 0).toList (aj j 2).toStr) 1).toBool))&& !(((aj j 0).toInt==2)&& !has (aj (aP g) 2).toList (aj j 2).toStr)
def oF (g e:PV):Bool:=(IJ g e&&SN g (aj e 1).toInt)&&(aj e 11).toList.all (jkB g)
theorem UC (g:PV) (id:Int):SN g id=(aj g 11).toList.any (Ux id):=by
 unfold SN;induction (aj g 11).toList with
 |nil=>rfl
 |cons a l ih=>simp only [List.find?_cons,List.any_cons]; cases Ux id a<;>simp [ih]
theorem NH (g e:PV) (w:Wf g) (we:Wf e) (h:oA (aP g)) (hl:Rx (aP g)):lQ [g,e]=some [.bool (oF g e)]:=by
 simp only [lQ,aA,aQ];rw [show aJ g 5 3=aP g from rfl,jR _ _ h hl];rw [dx _ (w.aj 11).len _ (Ux (aj e 1).toInt)]
 ·rw [aY _ (we.aj 11).len [] _ _ [.bool false] (jkB g)]
  ·simp only [an,aA,aQ,toInt_int,ak,show bE 0 0=true from rfl,show bE (-1) 0=false from rfl,oF,IJ,UC]
   cases has _ _<;>cases List.any _ _<;>cases List.all _ _<;>rfl
  ·intro i hi hm
   simp only [aA,toInt_int,aB hi,au];rw [jR _ _ h hl,Ir _ _ h hl];simp only [an,aA,aQ,ak,Ca,cU,jkB];generalize (aj (rd (aj e 11).toList i) 0).toInt=k;cases k==1<;>cases k==2<;>cases has _ _<;>cases (aj (uh _ _) 1).toBool<;>cases has _ _<;>rfl
 ·intro i hi hm
  simp only [aA,toInt_int,aB hi,au,Ux];cases _==(aj e 1).toInt<;>rfl
 ·intro i; simp [bE]
theorem SQ (g:PV) (id:Int) (w:Wf g):pF [g, .int id]=some [.bool (SN g id)]:=by
 simp only [pF,aA,aQ,toInt_int];rw [aY _ (w.aj 11).len [] _ _ [.bool true] (fun p=> !Ux id p)]
 ·rw [UC]; simp [List.any_eq_not_all_not]
 ·intro i hi hm
  simp only [aA,toInt_int,aB hi,au,Ux];cases _==id<;>rfl
theorem Wc (g e:PV) (w:Wf g) (we:Wf e) (h:oA (aP g)):rM [g,e]=some [.bool (oF g e)]:=by
 simp only [rM,aA,aQ];rw [show aJ g 5 3=aP g from rfl,jf _ _ h,SQ _ _ w];rw [aY _ (we.aj 11).len [] _ _ [.bool false] (jkB g)]
 ·simp only [an,aA,aQ,toInt_int,ak,oF,IJ]
  cases has _ _<;>cases SN _ _<;>cases List.all _ _<;>rfl
 ·intro i hi hm
  simp only [aA,toInt_int,aB hi,au];rw [jf _ _ h,Is _ _ h];simp only [an,aA,aQ,ak,jkB,Iu];generalize (aj (rd (aj e 11).toList i) 0).toInt=k;cases k==1<;>cases k==2<;>cases has _ _<;>cases (aj (uh _ _) 1).toBool<;>cases has _ _<;>rfl
def QM (g e:PV):Bool:=IJ g e&& !(aj (uj g e) 1).toBool
def bdV (g e:PV):PV:=cond (QM g e) (.agg [.int (aj e 0).toInt, .int (aj (uj g e) 3).toInt, .int (aj (uj g e) 6).toInt, .int (aj e 3).toInt, .int (aj e 4).toInt, .int 0, .int 0]) (.agg [.int 0, .int 0, .int 0, .int 0, .int 0, .int 0, .int 0])
theorem E3 (g e:PV) (h:oA (aP g)) (hl:Rx (aP g)):i6 [aP g,e]=some [bdV g e, .bool (QM g e)]:=by
 simp only [i6,aA,aQ];rw [jR _ _ h hl];simp only [an,aA,aQ,ga,oh,ak,toInt_int,Ca,cU,bdV,QM,IJ,uj];cases has _ _<;>cases (aj (uh _ _) 1).toBool<;>rfl
theorem Y9 (g e:PV) (h:oA (aP g)):vl [aP g,e]=some [bdV g e, .bool (QM g e)]:=by
 simp only [vl,aA,aQ];rw [jf _ _ h];simp only [an,aA,aQ,ga,oh,ak,toInt_int,Iu,LH _ _ 3 rfl,LH _ _ 6 rfl,bdV,QM,IJ,uj];cases has _ _<;>cases (aj (uh _ _) 1).toBool<;>rfl
def vA (g:PV) (L:List PV):List PV:=L.flatMap fun e=>cond (QM g e) [bdV g e] []
theorem Wd {R:Type} (L:List PV) (hn:L.length≤aN) (B:List PV→Option (List PV ⊕ R)) (E:List PV→Option R) (h:PV→List PV) (hk: ∀ x,(h x).length≤1)
  (hB: ∀ i:Nat,i<L.length→rd L i∈L→ ∀ l:List PV,l.length≤i→B [.int i, .list l]=some (.inl [.int (IntKind.i64.wrap (i+1)), .list (l++h (rd L i))])):
  iter (fun ρ=>cond (aK (nth ρ 0).toInt (L.length:Int)) (B ρ) (ay (E ρ))) [.int 0, .list []]=E [.int L.length, .list (L.flatMap h)]:=by
 have hw: ∀ i:Nat,i<L.length→IntKind.i64.wrap ((i:Int)+1)=((i+1:Nat):Int):=by
  intro i hi; rw [wrap_i64 (by omega) (by simp only [aN] at hn; omega)]; simp
 have key: ∀ k i:Nat,k+i=L.length→ ∀ l:List PV,l.length≤i→iter (fun ρ=>cond (aK (nth ρ 0).toInt (L.length:Int)) (B ρ) (ay (E ρ))) [.int i, .list l]=E [.int L.length, .list (l++(L.drop i).flatMap h)]:=by
  intro k;induction k with
  |zero=>
   intro i e l hl;obtain rfl:i=L.length:=by omega
   rw [b_]; simp [aK]; cases E _<;>rfl
  |succ k ih=>
   intro i e l hl;rw [b_];have hi:i<L.length:=by omega
   simp only [aA,toInt_int,e_ hi,cond_true,hB i hi (m_ hi) l hl,aR,hw i hi];have e1:rd L i=L[i]:=by simp [rd,hi]
   have:=hk (rd L i);rw [ih (i+1) (by omega) _ (by simp; omega),List.drop_eq_getElem_cons hi,List.flatMap_cons,e1,List.append_assoc]
 exact key L.length 0 (by omega) [] (by simp)
theorem IK (g:PV) (L:List PV):(vA g L).length≤L.length:=by
 induction L with
 |nil=>simp [vA]
 |cons a l ih=>simp only [vA,List.flatMap_cons,List.length_append,List.length_cons] at *; cases QM g a<;>simp only [cond_true,cond_false,List.length_cons,List.length_nil]<;>omega
theorem J9 (g:PV) (L:List PV) (h:oA (aP g)) (hl:Rx (aP g)) (hL:L.length≤100):jt [aP g, .list L]=some (vA g L):=by
 simp only [jt,aA,aQ,aE];rw [Wd L (le_max (by omega)) _ _ (fun e=>cond (QM g e) [bdV g e] []) (fun x=>by cases QM g x<;>simp)]
 ·simp [vA]
 ·intro i hi hm l Oc
  simp only [aA,aQ,toInt_int,aE,aB hi,au,E3 g _ h hl,an,ak];rw [bh (by omega) (by simp; omega)];cases QM g _<;>simp
theorem SS (g:PV) (L:List PV) (h:oA (aP g)) (hL:L.length≤100):pz [aP g, .list L]=some (vA g L):=by
 simp only [pz,aA,aQ,aE];rw [tP L (le_max (by omega)) _ _ (fun a e=> .list (a.toList++cond (QM g e) [bdV g e] [])) (fun i a=> ∃ l:List PV,a= .list l∧l.length≤i) (fun i hi a ⟨l,e,Oc⟩=>⟨_,rfl,by subst e; cases QM g (rd L i)<;>simp<;>omega⟩)]
 ·rw [B7]; simp [vA]
 ·rintro i hi hm a ⟨l,rfl,Oc⟩
  simp only [aA,aQ,toInt_int,aE,aB hi,au,Y9 g _ h,an,ak];rw [bh (by omega) (by simp; omega)];cases QM g _<;>simp
 ·exact ⟨[],rfl,by simp⟩
def half (x:Int):Int:=IntKind.i64.wrap ((IntKind.i64.wrap (x*256)).tdiv 2)
def J_ (g e:PV):PV:=ND (aJ e 3 2) (.agg [.int (half (aj (uj g e) 4).toInt), .int (half (aj (uj g e) 5).toInt)])
def SU (p:PV):PV:= .agg [.int ((aj p 0).toInt.fdiv 256), .int ((aj p 1).toInt.fdiv 256)]
theorem E4 (p:PV):nB [p]=some [SU p]:=rfl
theorem QN (p:PV) (w:Wf p):qn [p]=some [SU p]:=by
 simp only [qn,aA];rw [QJ _ (w.aj 0).lo (w.aj 0).hi,QJ _ (w.aj 1).lo (w.aj 1).hi]; rfl
def AD (g e:PV):Bool:=IJ g e&&((aj (uj g e) 1).toBool&&(!aK (aj (uj g e) 4).toInt 1&&(!bq (aj (uj g e) 4).toInt 4&&(!aK (aj (uj g e) 5).toInt 1&& !bq (aj (uj g e) 5).toInt 4))))
def wE (g e:PV):PV:=cond (AD g e) (.agg [.int ((aj (J_ g e) 0).toInt.fdiv 256), .int ((aj (J_ g e) 1).toInt.fdiv 256), .int (aj (uj g e) 4).toInt, .int (aj (uj g e) 5).toInt]) (.agg [.int 0, .int 0, .int 0, .int 0])
theorem QO (g e:PV) (h:oA (aP g)) (hl:Rx (aP g)):nC [aP g,e]=some [wE g e, .bool (AD g e)]:=by
 simp only [nC,aA,aQ];rw [jR _ _ h hl];simp only [an,aA,aQ,kW,mH,ak,toInt_int,Ca,cU,oE,show ((2:Int)==0)=false from rfl,Bool.not_false,au,UB,E4,SU,wE,AD,IJ,uj,J_,half];cases has _ _<;>cases (aj (uh _ _) 1).toBool<;>cases aK _ 1<;>cases bq _ 4<;>cases aK _ 1<;>cases bq _ 4<;>rfl
theorem adf (a b:PV):Wf (ND a b):=by
 have h: ∀ x,Wf (.int (jE x)):=fun x=> .int _ (by have:=Ay x; omega) (by have:=Az x; omega)
 refine .agg _ ?_;intro q hq;simp only [List.mem_cons,List.not_mem_nil,or_false] at hq;rcases hq with rfl|rfl<;>exact h _
theorem QS (g e:PV) (h:oA (aP g)):qo [aP g,e]=some [wE g e, .bool (AD g e)]:=by
 simp only [qo,aA,aQ];rw [jf _ _ h];simp only [an,aA,aQ,kW,mH,ak,toInt_int,Iu,LH _ _ 4 rfl,LH _ _ 5 rfl,show ((2:Int)==0)=false from rfl,Bool.not_false,au,UA,QN _ (adf _ _),SU,wE,AD,IJ,uj,J_,half];cases has _ _<;>cases (aj (uh _ _) 1).toBool<;>cases aK _ 1<;>cases bq _ 4<;>cases aK _ 1<;>cases bq _ 4<;>rfl
end
end Go.Sy.V
namespace Go.Sy.V
open PV Go.Sy
noncomputable section
def Ci (g e:PV):Bool:=cond (aj (uj g e) 1).toBool
 (!bq ((aj e 10).toList.length:Int) 0&&((aj e 8).toInt==0&&((aj e 9).toInt==0&&((aj e 7).toInt==0|| !bq ((aj e 11).toList.length:Int) 0))))
 (!bq ((aj e 11).toList.length:Int) 0&&((aj e 7).toInt==0&& !bq (IntKind.i64.wrap ((aj e 8).toInt+(aj e 9).toInt)) (aj (uj g e) 11).toInt))
theorem gt0 (n:Nat):bq (n:Int) 0= !((n:Int)==0):=by
 simp only [bq]; cases n<;>simp; omega
theorem Cj (g:PV) (w:Wf g) (h:oA (aP g)) (hl:Rx (aP g)) (hn:(aj g 12).toList.length≤100):fK [g]=some [.bool ((aj g 12).toList.all (Ci g)&&SO (vA g (aj g 12).toList))]:=by
 simp only [fK,aA];rw [show aJ g 5 3=aP g from rfl,aY _ (w.aj 12).len [] _ _ [.bool false] (Ci g)]
 ·rw [J9 g _ h hl hn]
  simp only [an];rw [FN _ (Nat.le_trans (IK _ _) (by omega))];cases List.all _ _<;>rfl
 ·intro i hi hm
  simp only [aA,toInt_int,aB hi,au];rw [jR _ _ h hl];simp only [an,aA,aQ,mj,ak,toInt_int,Ca,cU,qk,Ci,uj];generalize rd (aj g 12).toList i=e;simp only [bne];cases (aj (uh _ _) 1).toBool with
  |true=>
   generalize bq ((aj e 10).toList.length:Int) 0=a;generalize bq ((aj e 11).toList.length:Int) 0=b;cases a<;>cases b<;>cases (aj e 8).toInt==0<;>cases (aj e 9).toInt==0<;>cases (aj e 7).toInt==0<;>rfl
  |false=>
   generalize bq ((aj e 11).toList.length:Int) 0=b;generalize bq (IntKind.i64.wrap _) _=c;cases b<;>cases c<;>cases (aj e 7).toInt==0<;>rfl
theorem SV (g e:PV) (h:oA (aP g)):pI [g,e]=some [.bool (Ci g e)]:=by
 simp only [pI,aA,aQ];rw [show aJ g 5 3=aP g from rfl,jf _ _ h];simp only [an,aA,aQ,ak,Iu,LH _ _ 11 rfl,xF,Ci,uj,gt0,Bool.not_not];cases (aj (uh _ _) 1).toBool with
 |true=>
  generalize (((aj e 10).toList.length:Int)==0)=a;generalize (((aj e 11).toList.length:Int)==0)=b;cases a<;>cases b<;>cases (aj e 8).toInt==0<;>cases (aj e 9).toInt==0<;>cases (aj e 7).toInt==0<;>rfl
 |false=>
  have hg: ∀ a b:Int,cI a b= !bq a b:=by intro a b; simp only [cI,bq]; grind
  rw [hg];generalize (((aj e 11).toList.length:Int)==0)=b;generalize bq (IntKind.i64.wrap _) _=c;cases b<;>cases c<;>cases (aj e 7).toInt==0<;>rfl
def mt (a b:PV):Bool:=bq (aj (qu (oK a) (oK b)) 2).toInt 0
theorem aaL (a b:PV):mt a b=mt b a:=by simp only [mt,Iy]
def Y_ (r p:PV):Bool:=SH (oK r) (Ce p)
def E5 (g r:PV):PV:=qu (oK r) (.agg [.int 0, .int 0, .int (jE (aj g 8).toInt), .int (jE (aj g 9).toInt)])
def QT (a b:PV):Bool:=((aj a 0).toInt==(aj b 0).toInt)&&(((aj a 1).toInt==(aj b 1).toInt)&&(((aj a 2).toInt==(aj b 2).toInt)&&(((aj a 3).toInt==(aj b 3).toInt)&&true)))
def cX (g e:PV) (i j:Nat):Int:=IntKind.i64.wrap ((aj e i).toInt - half (aj (uj g e) j).toInt)
def alB (g e:PV):Bool:=((cX g e 3 4).tmod 256==0)&&(((cX g e 4 5).tmod 256==0)&&QT (E5 g (wE g e)) (wE g e))
def xO (g:PV) (L:List PV):List PV:=L.flatMap fun e=>cond (AD g e) [wE g e] []
def We (g:PV) (i:Nat):Bool:= !AD g (rd (aj g 12).toList i)||(alB g (rd (aj g 12).toList i)&& !(xO g ((aj g 12).toList.take i)).any (mt (wE g (rd (aj g 12).toList i))))
def IL (e:PV):PV:=SU (aJ e 3 2)
def Za (g e:PV):Bool:= !QM g e||(E1 (xL g) (aj (uj g e) 3).toInt (IL e)&& !((!((aj (uj g e) 3).toInt==3))&&(xO g (aj g 12).toList).any fun r=>Y_ r (IL e)))
def Zb (g:PV):Bool:=aZ (We g) (aj g 12).toList.length 0&&(aj g 12).toList.all (Za g)
theorem SW {R:Type} (L:List PV) (hn:L.length≤aN) (c:PV) (B:List PV→Option (List PV ⊕ R)) (E:List PV→Option R) (h:PV→List PV) (p:Nat→Bool) (bad:R)
  (hB: ∀ i:Nat,i<L.length→rd L i∈L→B [.int i,c, .list ((L.take i).flatMap h)]=some (cond (p i) (.inl [.int (IntKind.i64.wrap (i+1)),c, .list ((L.take i).flatMap h++h (rd L i))]) (.inr bad))):
  iter (fun ρ=>cond (aK (nth ρ 0).toInt (L.length:Int)) (B ρ) (ay (E ρ))) [.int 0,c, .list []]=cond (aZ p L.length 0) (E [.int L.length,c, .list (L.flatMap h)]) (some bad):=by
 have hw: ∀ i:Nat,i<L.length→IntKind.i64.wrap ((i:Int)+1)=((i+1:Nat):Int):=by
  intro i hi; rw [wrap_i64 (by omega) (by simp only [aN] at hn; omega)]; simp
 have key: ∀ k i:Nat,k+i=L.length→iter (fun ρ=>cond (aK (nth ρ 0).toInt (L.length:Int)) (B ρ) (ay (E ρ))) [.int i,c, .list ((L.take i).flatMap h)]=cond (aZ p k i) (E [.int L.length,c, .list (L.flatMap h)]) (some bad):=by
  intro k;induction k with
  |zero=>
   intro i e;obtain rfl:i=L.length:=by omega
   rw [b_]; simp [aK,aZ,scan]; cases E _<;>rfl
  |succ k ih=>
   intro i e;rw [b_];have hi:i<L.length:=by omega
   simp only [aA,toInt_int,e_ hi,cond_true,hB i hi (m_ hi),aZ,scan,hw i hi];cases p i with
   |false=>rfl
   |true=>
    have e1:rd L i=L[i]:=by simp [rd,hi]
    have e2:(L.take i).flatMap h++h (rd L i)=(L.take (i+1)).flatMap h:=by
     rw [e1,List.take_succ_eq_append_getElem hi,List.flatMap_append]; simp
    simp only [cond_true,aR,e2];exact ih (i+1) (by omega)
 exact key L.length 0 (by omega)
theorem D9 (g:PV) (L:List PV):(xO g L).length≤L.length:=by
 induction L with
 |nil=>simp [xO]
 |cons a l ih=>simp only [xO,List.flatMap_cons,List.length_append,List.length_cons] at *; cases AD g a<;>simp only [cond_true,cond_false,List.length_cons,List.length_nil]<;>omega
theorem Ka (g:PV) (w:Wf g) (h:oA (aP g)) (hl:Rx (aP g)) (hn:(aj g 12).toList.length≤100):ju [g]=some [.bool (Zb g)]:=by
 simp only [ju,aA];rw [show aJ g 5 3=aP g from rfl,show aJ g 8 3=xL g from rfl];rw [SW _ (le_max (by omega)) (.bool false) _ _ (fun e=>cond (AD g e) [wE g e] []) (We g) [.bool false]]
 ·simp only [aQ,bJ,ak,aE]
  rw [show ((aj g 12).toList.flatMap fun e=>cond (AD g e) [wE g e] [])=xO g (aj g 12).toList from rfl];rw [aY _ (le_max (by omega)) [.bool false] _ _ [.bool false] (Za g)]
  ·unfold Zb; cases aZ _ _ _<;>cases List.all _ _<;>rfl
  ·intro i hi hm
   simp only [aA,aQ,ak,toInt_int,aB hi,au,E3 g _ h hl,an,E4];rw [show SU (aJ (rd (aj g 12).toList i) 3 2)=IL (rd (aj g 12).toList i) from rfl];rw [dx (xO g (aj g 12).toList) (le_max (Nat.le_trans (D9 _ _) (by omega))) _ (fun r=>Y_ r (IL (rd (aj g 12).toList i)))]
   ·rw [D7]
    simp only [an,aA,aQ,bJ,toInt_int,ak,show bE 0 0=true from rfl,show bE (-1) 0=false from rfl,Za,bne];cases hb:QM g (rd (aj g 12).toList i) with
    |false=>rfl
    |true=>
     simp only [bdV,hb,cond_true,cU,aQ,toInt_int];cases E1 _ _ _<;>cases (aj (uj g _) 3).toInt==3<;>cases List.any _ _<;>rfl
   ·intro j hj hm'
    simp only [aA,aQ,toInt_int,aB hj,au,QC,an,ak,Y_];cases SH _ _<;>rfl
   ·intro j; simp [bE]
 ·intro i hi hm
  simp only [aA,aQ,bJ,toInt_int,ak,aE,aB hi,au,QO g _ h hl,an];rw [jR _ _ h hl,show ((aj g 12).toList.take i).flatMap (fun e=>cond (AD g e) [wE g e] [])=xO g ((aj g 12).toList.take i) from rfl];rw [dx (xO g ((aj g 12).toList.take i)) (le_max (Nat.le_trans (D9 _ _) (by simp; omega))) _ (mt (wE g (rd (aj g 12).toList i)))]
  ·rw [bh (by omega) (by have:=D9 g ((aj g 12).toList.take i); simp at *; omega)]
   simp only [an,aA,aQ,bJ,kW,mH,toInt_int,ak,show bE 0 0=true from rfl,show bE (-1) 0=false from rfl,au,show ((2:Int)==0)=false from rfl,show ((256:Int)==0)=false from rfl,Bool.not_false,Ca,cU,V6,We,alB,bne];rw [show IntKind.i64.wrap ((aj (rd (aj g 12).toList i) 3).toInt - (IntKind.i64.wrap ((IntKind.i64.wrap ((aj (uh (aj (aP g) 0).toList (aj (rd (aj g 12).toList i) 2).toStr) 4).toInt*256)).tdiv 2)))=cX g (rd (aj g 12).toList i) 3 4 from rfl];rw [show IntKind.i64.wrap ((aj (rd (aj g 12).toList i) 4).toInt - (IntKind.i64.wrap ((IntKind.i64.wrap ((aj (uh (aj (aP g) 0).toList (aj (rd (aj g 12).toList i) 2).toStr) 5).toInt*256)).tdiv 2)))=cX g (rd (aj g 12).toList i) 4 5 from rfl];rw [show qu (oK (wE g (rd (aj g 12).toList i))) (.agg [.int 0, .int 0, .int (jE (aj g 8).toInt), .int (jE (aj g 9).toInt)])=E5 g (wE g (rd (aj g 12).toList i)) from rfl];unfold QT;generalize ((cX g _ 3 4).tmod 256==0)=a1;generalize ((cX g _ 4 5).tmod 256==0)=a2;generalize List.any _ _=a3;generalize hs:(((aj (E5 g (wE g (rd (aj g 12).toList i))) 0).toInt==(aj (wE g (rd (aj g 12).toList i)) 0).toInt)&&_)=a4;cases AD g _<;>cases a1<;>cases a2<;>cases a3<;>cases a4<;>simp
  ·intro j hj hm'
   simp only [aA,aQ,toInt_int,aB hj,au,V4,an,aA,aQ,ak,mt];cases bq _ _<;>rfl
  ·intro j; simp [bE]
end
end Go.Sy.V
namespace Go.Sy.V
open PV Go.Sy
noncomputable section
def whB (g e r:PV):Bool:=(IntKind.i64.wrap ((aj e 3).toInt - half (aj r 2).toInt)==IntKind.i64.wrap ((aj r 0).toInt*256))&&((IntKind.i64.wrap ((aj e 4).toInt - half (aj r 3).toInt)==IntKind.i64.wrap ((aj r 1).toInt*256))&&QT (E5 g r) r)
theorem Wg (g e r:PV):rN [g,e,r]=some [.bool (whB g e r)]:=by
 simp only [rN,aA,aQ,bJ,show ((2:Int)==0)=false from rfl,Bool.not_false,au,YZ,an,toInt_int,whB,half];generalize (_==IntKind.i64.wrap ((aj r 0).toInt*256))=a;generalize (_==IntKind.i64.wrap ((aj r 1).toInt*256))=b;cases a<;>cases b<;>rfl
def SX (g e x:PV):Bool:= !AD g x||((aj x 0).toInt==(aj e 0).toInt|| !((AD g e&&mt (wE g e) (wE g x))||(!AD g e&&(!((aj (uj g e) 3).toInt==3)&&Y_ (wE g x) (IL e)))))
def zq (g e:PV):Bool:=(!AD g e||whB g e (wE g e))&&((AD g e||E1 (xL g) (aj (uj g e) 3).toInt (IL e))&&(aj g 12).toList.all (SX g e))
theorem SY (g e:PV) (w:Wf g) (we:Wf e) (h:oA (aP g)):pH [g,e]=some [.bool (zq g e)]:=by
 simp only [pH,aA,aQ];rw [show aJ g 5 3=aP g from rfl,show aJ g 8 3=xL g from rfl,QS g e h];simp only [an,aA,aQ,ak,Wg];rw [jf _ _ h];simp only [an,aA,aQ,ak,QN _ (we.aJ 3 2),LH _ _ 3 rfl];rw [NB];rw [show SU (aJ e 3 2)=IL e from rfl];rw [aY _ (w.aj 12).len [] _ _ [.bool false] (SX g e)]
 ·simp only [an,aA,aQ,bJ,toInt_int,ak,zq,uj]
  cases AD g e<;>cases whB _ _ _<;>cases E1 _ _ _<;>cases List.all _ _<;>rfl
 ·intro i hi hm
  simp only [aA,toInt_int,aB hi,au,QS g _ h,an,aA,aQ,ak,YY,SI,SX,mt,Y_,uj,bne];generalize bq _ 0=a;generalize SH _ _=b;generalize (_==(aj e 0).toInt)=c;generalize ((aj (uh _ _) 3).toInt==3)=d;cases AD g (rd _ _)<;>cases AD g e<;>cases a<;>cases b<;>cases c<;>cases d<;>rfl
theorem dy {b:Nat→Bool} {k i:Nat}:aZ b k i=true↔ ∀ j,i≤j→j<i+k→b j=true:=by
 induction k generalizing i with
 |zero=>simp [aZ,scan]; omega
 |succ k ih=>
  have:aZ b (k+1) i=(b i&&aZ b k (i+1)):=by
   simp only [aZ,scan]; cases b i<;>rfl
  rw [this,Bool.and_eq_true,ih];constructor
  ·rintro ⟨h1,h2⟩ j pP hj2
   by_cases e:j=i
   ·subst e; exact h1
   ·exact h2 j (by omega) (by omega)
  ·intro h
   exact ⟨h i (by omega) (by omega),fun j h1 h2=>h j (by omega) (by omega)⟩
theorem Zc {g:PV} (h:aZ (plI g) (aj g 12).toList.length 0=true): ∀ j i,i<j→j<(aj g 12).toList.length→(aj (rd (aj g 12).toList i) 0).toInt<(aj (rd (aj g 12).toList j) 0).toInt:=by
 rw [dy] at h;intro j;induction j with
 |zero=>intro i h1 _; omega
 |succ j ih=>
  intro i h1 h2;have hj:=h (j+1) (by omega) (by omega);have e2:dn (aj g 12).toList (j+1)=(aj (rd (aj g 12).toList j) 0).toInt:=by simp [dn]
  simp only [plI,Bool.and_eq_true,e2,cI,Bool.not_eq_true',decide_eq_false_iff_not] at hj;have hj:=hj.1;by_cases e:i=j
  ·subst e; omega
  ·have:=ih i (by omega) (by omega); omega
theorem ids_eq {g:PV} (h:aZ (plI g) (aj g 12).toList.length 0=true) {i j:Nat} (hi:i<(aj g 12).toList.length) (hj:j<(aj g 12).toList.length) (e:(aj (rd (aj g 12).toList i) 0).toInt=(aj (rd (aj g 12).toList j) 0).toInt):i=j:=by
 rcases Nat.lt_trichotomy i j with h1|h1|h1
 ·have:=Zc h j i h1 hj; omega
 ·exact h1
 ·have:=Zc h i j h1 hi; omega
theorem IM {x:Int} (h1:1≤x) (h2:x≤4):half x=x*128:=by
 obtain rfl|rfl|rfl|rfl:x=1∨x=2∨x=3∨x=4:=by omega
 all_goals rfl
theorem QU (g r:PV):0≤(aj (E5 g r) 0).toInt∧0≤(aj (E5 g r) 1).toInt:=by
 have hm: ∀ a b:Int,b≤jL a b:=fun a b=>by simp only [jL]; split<;>omega
 simp only [E5,qu];generalize (_||_)=b;cases b with
 |true=>exact ⟨Int.le_refl _,Int.le_refl _⟩
 |false=>exact ⟨hm _ 0,hm _ 0⟩
theorem LI {g e:PV} (hv:AA (aJ e 3 2)=true) (hr:AD g e=true):whB g e (wE g e)=alB g e:=by
 have hr':=hr;simp only [AD,Bool.and_eq_true,Bool.not_eq_true',aK,bq,decide_eq_false_iff_not] at hr';obtain ⟨_,_,w1,w2,h1,h2⟩:=hr';simp only [AA,Bool.and_true,Bool.and_eq_true,beq_iff_eq] at hv;have s0:aj (aJ e 3 2) 0=aj e 3:=fB e 3 2 0 (by omega);have s1:aj (aJ e 3 2) 1=aj e 4:=fB e 3 2 1 (by omega);rw [s0,s1] at hv;obtain ⟨v1,v2⟩:=hv;have v1a:=Ay (aj e 3).toInt; have v1b:=Az (aj e 3).toInt;have v2a:=Ay (aj e 4).toInt; have v2b:=Az (aj e 4).toInt;have hW:=IM (x:=(aj (uj g e) 4).toInt) (by omega) (by omega);have hH:=IM (x:=(aj (uj g e) 5).toInt) (by omega) (by omega);unfold whB alB;cases hs:QT (E5 g (wE g e)) (wE g e) with
 |false=>simp
 |true=>
  simp only [Bool.and_true];simp only [QT,Bool.and_true,Bool.and_eq_true,beq_iff_eq] at hs;have hc:=QU g (wE g e);rw [hs.1,hs.2.1] at hc;have e2:(aj (wE g e) 2).toInt=(aj (uj g e) 4).toInt:=by simp [wE,hr]
  have e3:(aj (wE g e) 3).toInt=(aj (uj g e) 5).toInt:=by simp [wE,hr]
  have e0:(aj (wE g e) 0).toInt=(aj (J_ g e) 0).toInt.fdiv 256:=by simp [wE,hr]
  have e1:(aj (wE g e) 1).toInt=(aj (J_ g e) 1).toInt.fdiv 256:=by simp [wE,hr]
  have c0:(aj (J_ g e) 0).toInt=jE ((aj e 3).toInt - (aj (uj g e) 4).toInt*128):=by
   simp only [J_,ND,cU,aA,toInt_int];rw [s0, ←v1,hW,D4 (x:=(aj (uj g e) 4).toInt*128) (by omega) (by omega),wrap_i64 (by omega) (by omega)]
  have c1:(aj (J_ g e) 1).toInt=jE ((aj e 4).toInt - (aj (uj g e) 5).toInt*128):=by
   simp only [J_,ND,cU,aA,aQ,toInt_int];rw [s1, ←v2,hH,D4 (x:=(aj (uj g e) 5).toInt*128) (by omega) (by omega),wrap_i64 (by omega) (by omega)]
  have key: ∀ a:Int, -1048576≤a→a≤1048576→ ∀ b:Int,1≤b→b≤4→0≤(jE (a - b*128)).fdiv 256→(IntKind.i64.wrap (a - b*128)==IntKind.i64.wrap ((jE (a - b*128)).fdiv 256*256))=((IntKind.i64.wrap (a - b*128)).tmod 256==0):=by
   intro a a1 a2 b b1 b2 hq;have q1:=Int.mul_fdiv_add_fmod (jE (a - b*128)) 256;have q2:0≤(jE (a - b*128)).fmod 256:=Int.fmod_nonneg_of_pos _ (by omega);have q3:(jE (a - b*128)).fmod 256<256:=Int.fmod_lt_of_pos _ (by omega);have hn:0≤a - b*128:=by
    rcases Int.lt_or_le (a - b*128) 0 with hlt|hle
    ·exfalso
     have:jE (a - b*128)<0:=by
      simp only [jE,jL,mR]; repeat' split
      all_goals omega
     omega
    ·exact hle
   have hid:jE (a - b*128)=a - b*128:=D4 (by omega) (by omega);rw [hid] at q1 q2 q3 hq ⊢;rw [wrap_i64 (n:=a - b*128) (by omega) (by omega),wrap_i64 (by omega) (by omega)];generalize a - b*128=x at*;have t1:=Int.mul_tdiv_add_tmod x 256;have t2:x.tmod 256<256:=Int.tmod_lt_of_pos x (by omega);have t3:=Int.tmod_nonneg 256 hn;rw [Bool.eq_iff_iff,beq_iff_eq,beq_iff_eq];omega
  rw [e0,c0] at hc ⊢;rw [e1,c1] at hc ⊢;rw [e2,e3];simp only [cX,hW,hH];rw [key _ (by omega) (by omega) _ (by omega) (by omega) hc.1,key _ (by omega) (by omega) _ (by omega) (by omega) hc.2]
end
end Go.Sy.V
namespace Go.Sy.V
open PV Go.Sy
noncomputable section
theorem UD {r:PV} (h:vR r=0):Io r=true∧YJ r=true∧FM r=true∧D3 r=false∧Iq r=true∧It r=true∧Nv r=true:=by
 simp only [vR] at h;cases h1:Io r with
 |false=>rw [h1] at h; exact absurd h (by simp)
 |true=>
 cases h2:YJ r with
 |false=>rw [h1,h2] at h; exact absurd h (by simp)
 |true=>
 cases h3:FM r with
 |false=>rw [h1,h2,h3] at h; exact absurd h (by simp)
 |true=>
 cases h4:D3 r with
 |true=>rw [h1,h2,h3,h4] at h; exact absurd h (by simp)
 |false=>
 cases h5:Iq r with
 |false=>rw [h1,h2,h3,h4,h5] at h; exact absurd h (by simp)
 |true=>
 cases h6:It r with
 |false=>rw [h1,h2,h3,h4,h5,h6] at h; exact absurd h (by simp)
 |true=>
 cases h7:Nv r with
 |false=>rw [h1,h2,h3,h4,h5,h6,h7] at h; exact absurd h (by simp)
 |true=>exact ⟨rfl,rfl,rfl,rfl,rfl,rfl,rfl⟩
theorem aaM {L:List PV} {s:ByteArray} (h:has L s=true):uh L s∈L:=by
 unfold has at h; unfold uh;cases e:L.find? (mE s) with
 |none=>rw [e] at h; simp at h
 |some u=>exact List.mem_of_find?_eq_some e
theorem UE {g e:PV} (hn:Iq (aP g)=true) (hu:IJ g e=true):QM g e= !AD g e:=by
 have hm:=aaM hu;simp only [Iq,Bool.and_eq_true,List.all_eq_true] at hn;have:=hn.1 _ hm;simp only [QM,AD,hu,Bool.true_and]
 change Ns (uj g e)=true at this
 cases hb:(aj (uj g e) 1).toBool with
 |false=>rfl
 |true=>
  simp only [Ns,hb,cond_true,Bool.and_eq_true,mB,bE,cI,decide_eq_true_eq] at this;obtain ⟨_,⟨⟨⟨_,h4⟩,h5⟩,_⟩,_⟩:=this;simp [aK,bq]; omega
theorem tS {g:PV} {L:List PV} {r:PV}:r∈xO g L↔ ∃ e∈L,AD g e=true∧r=wE g e:=by
 simp only [xO,List.mem_flatMap];constructor
 ·rintro ⟨e,he,hr⟩
  cases h:AD g e with
  |false=>rw [h] at hr; simp at hr
  |true=>rw [h] at hr; exact ⟨e,he,h,by simpa using hr⟩
 ·rintro ⟨e,he,h,rfl⟩
  exact ⟨e,he,by rw [h]; simp⟩
theorem Ck {L:List PV} {i:Nat} {x:PV} (hi:i≤L.length):x∈L.take i↔ ∃ j,j<i∧x=rd L j:=by
 rw [List.mem_take_iff_getElem];constructor
 ·rintro ⟨j,hj,rfl⟩; exact ⟨j,by omega,by simp [rd,show j<L.length by omega]⟩
 ·rintro ⟨j,hj,rfl⟩; exact ⟨j,by omega,by simp [rd,show j<L.length by omega]⟩
theorem NI {L:List PV} {x:PV}:x∈L↔ ∃ j,j<L.length∧x=rd L j:=by
 have:=Ck (L:=L) (i:=L.length) (x:=x) (by omega)
 rwa [List.take_length] at this
theorem place_eq {g:PV} (hp:xN g=true) (hk:(aj g 12).toList.all (oF g)=true):Zb g=(aj g 12).toList.all (zq g):=by
 simp only [xN,Bool.and_eq_true,beq_iff_eq] at hp;obtain ⟨⟨hr,_⟩,adg⟩:=hp;have afX:=(UD hr).2.2.2.2.1;have hall:=dy.1 adg;have hen: ∀ i,i<(aj g 12).toList.length→AA (aJ (rd (aj g 12).toList i) 3 2)=true:=by
  intro i hi;have:=hall i (by omega) (by omega);simp only [plI,enB,Bool.and_eq_true] at this;exact this.2.2.1.1
 simp only [List.all_eq_true] at hk;have hu: ∀ i,i<(aj g 12).toList.length→IJ g (rd (aj g 12).toList i)=true:=by
  intro i hi;have:=hk _ (m_ hi);simp only [oF,Bool.and_eq_true] at this;exact this.1.1
 rw [Bool.eq_iff_iff];simp only [Zb,Bool.and_eq_true,dy,List.all_eq_true];constructor
 ·rintro ⟨h1,h2⟩ e he
  obtain ⟨i,hi,rfl⟩:=NI.1 he;have hb:=UE afX (hu i hi);have e1:=h1 i (by omega) (by omega);have e2:=h2 _ he;cases hro:AD g (rd (aj g 12).toList i) with
  |true=>
   simp only [We,hro,Bool.not_true,Bool.false_or,Bool.and_eq_true,Bool.not_eq_true',List.any_eq_false] at e1;simp only [zq,hro,Bool.not_true,Bool.false_or,Bool.true_or,Bool.true_and,Bool.and_eq_true,List.all_eq_true,LI (hen i hi) hro];refine ⟨e1.1,fun x hx=> ?_⟩;obtain ⟨j,hj,rfl⟩:=NI.1 hx;simp only [SX,hro,Bool.not_true,Bool.true_and,Bool.false_and,Bool.or_false];cases hrj:AD g (rd (aj g 12).toList j) with
   |false=>rfl
   |true=>
    rcases Nat.lt_trichotomy j i with hlt|heq|hgt
    ·have:=e1.2 (wE g (rd (aj g 12).toList j)) (tS.2 ⟨_,(Ck (by omega)).2 ⟨j,hlt,rfl⟩,hrj,rfl⟩)
     simp [this]
    ·subst heq; simp
    ·have e3:=h1 j (by omega) (by omega)
     simp only [We,hrj,Bool.not_true,Bool.false_or,Bool.and_eq_true,Bool.not_eq_true',List.any_eq_false] at e3;have:=e3.2 (wE g (rd (aj g 12).toList i)) (tS.2 ⟨_,(Ck (by omega)).2 ⟨i,hgt,rfl⟩,hro,rfl⟩);rw [aaL] at this;simp [this]
  |false=>
   rw [hro] at hb;simp only [Za,hb,Bool.not_false,Bool.not_true,Bool.false_or,Bool.and_eq_true] at e2;simp only [zq,hro,Bool.not_false,Bool.true_or,Bool.true_and,Bool.false_or,Bool.and_eq_true,List.all_eq_true];refine ⟨e2.1,fun x hx=> ?_⟩;simp only [SX,hro,Bool.not_false,Bool.true_and,Bool.false_and,Bool.false_or];cases hrj:AD g x with
   |false=>rfl
   |true=>
    have h3:=e2.2;cases hc:((aj (uj g (rd (aj g 12).toList i)) 3).toInt==3) with
    |true=>simp
    |false=>
     rw [hc] at h3;simp only [Bool.not_false,Bool.true_and,Bool.not_eq_true',List.any_eq_false] at h3;have:=h3 (wE g x) (tS.2 ⟨x,hx,hrj,rfl⟩);simp [this]
 ·intro h
  constructor
  ·intro i _ hi
   have hi:i<(aj g 12).toList.length:=by omega
   have e1:=h _ (m_ hi);simp only [We];cases hro:AD g (rd (aj g 12).toList i) with
   |false=>rfl
   |true=>
    simp only [zq,hro,Bool.not_true,Bool.false_or,Bool.true_or,Bool.true_and,Bool.and_eq_true,List.all_eq_true,LI (hen i hi) hro] at e1;simp only [Bool.not_true,Bool.false_or,Bool.and_eq_true,Bool.not_eq_true',List.any_eq_false];refine ⟨e1.1,fun r hr=> ?_⟩;obtain ⟨x,hx,hrx,rfl⟩:=tS.1 hr;obtain ⟨j,hj,rfl⟩:=(Ck (by omega)).1 hx;have e3:=e1.2 _ (m_ (show j<(aj g 12).toList.length by omega));have hne:((aj (rd (aj g 12).toList j) 0).toInt==(aj (rd (aj g 12).toList i) 0).toInt)=false:=by
     rw [beq_eq_false_iff_ne]; intro e;have:=ids_eq adg (show j<(aj g 12).toList.length by omega) hi e;omega
    simp only [SX,hro,hrx,hne,Bool.not_true,Bool.true_and,Bool.false_and,Bool.or_false,Bool.false_or,Bool.not_eq_true'] at e3;simp [e3]
  ·intro e he
   obtain ⟨i,hi,rfl⟩:=NI.1 he;have hb:=UE afX (hu i hi);have e1:=h _ he;simp only [Za,hb];cases hro:AD g (rd (aj g 12).toList i) with
   |true=>rfl
   |false=>
    simp only [zq,hro,Bool.not_false,Bool.true_or,Bool.true_and,Bool.false_or,Bool.and_eq_true,List.all_eq_true] at e1;simp only [Bool.not_false,Bool.not_true,Bool.false_or,Bool.and_eq_true];refine ⟨e1.1, ?_⟩;cases hc:((aj (uj g (rd (aj g 12).toList i)) 3).toInt==3) with
    |true=>rfl
    |false=>
     simp only [Bool.not_false,Bool.true_and,Bool.not_eq_true',List.any_eq_false];intro r hr;obtain ⟨x,hx,hrx,rfl⟩:=tS.1 hr;obtain ⟨j,hj,rfl⟩:=NI.1 hx;have e3:=e1.2 _ hx;have hne:((aj (rd (aj g 12).toList j) 0).toInt==(aj (rd (aj g 12).toList i) 0).toInt)=false:=by
      rw [beq_eq_false_iff_ne]; intro e;have:=ids_eq adg hj hi e;subst this; rw [hro] at hrx; exact absurd hrx (by simp)
     simp only [SX,hro,hrx,hne,hc,Bool.not_true,Bool.not_false,Bool.true_and,Bool.false_and,Bool.or_false,Bool.false_or,Bool.not_eq_true'] at e3;simp [e3]
def Wh (g:PV):Option (List PV):=cond (bq ((aj g 12).toList.length:Int) 64) (some [.int 2]) (cond (!xN g) (some [.int 1]) (cond ((aj g 12).toList.all (oF g)) (cond (!Zb g) (some [.int 9]) (cond (!((aj g 12).toList.all (Ci g)&&SO (vA g (aj g 12).toList))) (some [.int 23]) (some [.int 0]))) (some [.int 8])))
theorem FO (g:PV) (w:Wf g) (h:oA (aP g)) (hn:(aj g 12).toList.length≤100) (hl:Rx (aP g)):gY [g]=Wh g:=by
 simp only [gY,aA,Wh];rw [aY _ (w.aj 12).len [] _ _ [.int 8] (oF g)]
 ·rw [NG g w h,Ka g w h hl hn,Cj g w h hl hn]
  simp only [an,aA,ak]
 ·intro i hi hm
  simp only [aA,toInt_int,aB hi,au,NH g _ w ((w.aj 12).mem hm) h hl,an,ak];cases oF _ _<;>rfl
theorem NJ (g:PV) (w:Wf g) (h:oA (aP g)) (hn:(aj g 12).toList.length≤100):l8 [g]=Wh g:=by
 simp only [l8,aA,Wh];rw [show aJ g 5 3=aP g from rfl];rw [aY _ (w.aj 12).len [] _ _ [.int 8] (oF g)]
 ·rw [aY _ (w.aj 12).len [] _ _ [.int 9] (zq g)]
  ·rw [aY _ (w.aj 12).len [] _ _ [.int 23] (Ci g)]
   ·rw [SP g w h,SS g _ h hn]
    simp only [an,aA,ak];rw [J8 _ (Nat.le_trans (IK _ _) (by omega))];simp only [an,aA,ak]
    congr 1
    cases hp:xN g with
    |false=>rfl
    |true=>
    simp only [Bool.not_true,cond_false];cases hk:(aj g 12).toList.all (oF g) with
    |false=>rfl
    |true=>
    simp only [cond_true,place_eq hp hk];cases (aj g 12).toList.all (zq g)<;>cases (aj g 12).toList.all (Ci g)<;>cases SO _<;>rfl
   ·intro i hi hm
    simp only [aA,toInt_int,aB hi,au,SV g _ h,an,ak];cases Ci _ _<;>rfl
  ·intro i hi hm
   simp only [aA,toInt_int,aB hi,au,SY g _ w ((w.aj 12).mem hm) h,an,ak];cases zq _ _<;>rfl
 ·intro i hi hm
  simp only [aA,toInt_int,aB hi,au,Wc g _ w ((w.aj 12).mem hm) h,an,ak];cases oF _ _<;>rfl
end
end Go.Sy.V
namespace Go.Sy.V
open PV Go.Sy
noncomputable section
def NK (a:Int):Int:=cond (a==1||(a==2||(a==3||(a==4||a==11)))) 0 (cond (a==5||(a==6||(a==7||(a==8||(a==9||(a==10||(a==25||(a==26||a==27)))))))) 1 (cond (a==22) 2 (cond (a==21||(a==23||a==24)) 3 (-1))))
def Rz (a:Int):Bool:=a==4||(a==11||(a==5||(a==24||(a==25||a==26))))
def Gx (a:Int):Bool:=bE a 1&&cI a 11
theorem NL {a:Int} {P:Int→Prop} (h1:P 1) (h2:P 2) (h3:P 3) (h4:P 4) (h5:P 5) (h6:P 6) (h7:P 7) (h8:P 8) (h9:P 9) (h10:P 10) (h11:P 11) (h21:P 21) (h22:P 22) (h23:P 23) (h24:P 24) (h25:P 25) (h26:P 26) (h27:P 27)
  (hne:(a==1)=false→(a==2)=false→(a==3)=false→(a==4)=false→(a==5)=false→(a==6)=false→(a==7)=false→(a==8)=false→(a==9)=false→(a==10)=false→(a==11)=false→(a==21)=false→(a==22)=false→(a==23)=false→(a==24)=false→(a==25)=false→(a==26)=false→(a==27)=false→P a):P a:=by
 by_cases e1:a=1; · exact e1 ▸ h1
 by_cases e2:a=2; · exact e2 ▸ h2
 by_cases e3:a=3; · exact e3 ▸ h3
 by_cases e4:a=4; · exact e4 ▸ h4
 by_cases e5:a=5; · exact e5 ▸ h5
 by_cases e6:a=6; · exact e6 ▸ h6
 by_cases e7:a=7; · exact e7 ▸ h7
 by_cases e8:a=8; · exact e8 ▸ h8
 by_cases e9:a=9; · exact e9 ▸ h9
 by_cases JB:a=10; · exact JB ▸ h10
 by_cases JC:a=11; · exact JC ▸ h11
 by_cases e21:a=21; · exact e21 ▸ h21
 by_cases e22:a=22; · exact e22 ▸ h22
 by_cases e23:a=23; · exact e23 ▸ h23
 by_cases e24:a=24; · exact e24 ▸ h24
 by_cases e25:a=25; · exact e25 ▸ h25
 by_cases e26:a=26; · exact e26 ▸ h26
 by_cases e27:a=27; · exact e27 ▸ h27
 have f: ∀ k:Int, ¬ a=k→(a==k)=false:=fun k h=>beq_eq_false_iff_ne.2 h
 exact hne (f _ e1) (f _ e2) (f _ e3) (f _ e4) (f _ e5) (f _ e6) (f _ e7) (f _ e8) (f _ e9) (f _ JB) (f _ JC) (f _ e21) (f _ e22) (f _ e23) (f _ e24) (f _ e25) (f _ e26) (f _ e27)
theorem vB (a:Int):eD [.int a]=some [.int (NK a), .bool (Rz a), .bool (Gx a)]:=by
 refine NL (a:=a) (P:=fun a=>eD [.int a]=some [.int (NK a), .bool (Rz a), .bool (Gx a)]) rfl rfl rfl rfl rfl rfl rfl rfl rfl rfl rfl rfl rfl rfl rfl rfl rfl rfl ?_;intro h1 h2 h3 h4 h5 h6 h7 h8 h9 h10 h11 h21 h22 h23 h24 h25 h26 h27;simp only [eD,aA,toInt_int];have hq:Gx a=false:=by
  simp only [beq_eq_false_iff_ne,ne_eq] at*;simp [Gx,bE,cI]; omega
 have hm:PG (cL (cL (cL (cL (cL (cL (cL (cL (cL (cL (cL (cL (cL (cL (cL (cL (cL (cL ([]:List PV) (.int 1) (.agg [.str (ByteArray.mk #[116,117,114,110]), .int 0, .bool false])) (.int 2) (.agg [.str (ByteArray.mk #[111,114,101]), .int 0, .bool false])) (.int 3) (.agg [.str (ByteArray.mk #[119,111,111,100]), .int 0, .bool false])) (.int 4) (.agg [.str (ByteArray.mk #[99,111,117,110,116]), .int 0, .bool true])) (.int 11) (.agg [.str (ByteArray.mk #[104,97,115]), .int 0, .bool true])) (.int 5) (.agg [.str (ByteArray.mk #[117,110,105,116]), .int 1, .bool true])) (.int 6) (.agg [.str (ByteArray.mk #[101,110,101,109,121]), .int 1, .bool false])) (.int 7) (.agg [.str (ByteArray.mk #[120]), .int 1, .bool false])) (.int 8) (.agg [.str (ByteArray.mk #[121]), .int 1, .bool false])) (.int 9) (.agg [.str (ByteArray.mk #[104,112]), .int 1, .bool false])) (.int 10) (.agg [.str (ByteArray.mk #[105,100,108,101]), .int 1, .bool false])) (.int 21) (.agg [.str (ByteArray.mk #[109,111,118,101]), .int 3, .bool false])) (.int 23) (.agg [.str (ByteArray.mk #[103,97,116,104,101,114]), .int 3, .bool false])) (.int 22) (.agg [.str (ByteArray.mk #[97,116,116,97,99,107]), .int 2, .bool false])) (.int 24) (.agg [.str (ByteArray.mk #[98,117,105,108,100]), .int 3, .bool true])) (.int 25) (.agg [.str (ByteArray.mk #[116,114,97,105,110]), .int 1, .bool true])) (.int 26) (.agg [.str (ByteArray.mk #[114,101,115,101,97,114,99,104]), .int 1, .bool true])) (.int 27) (.agg [.str (ByteArray.mk #[104,111,108,100]), .int 1, .bool false])) (.int a)=false:=by
  simp only [cL,eM,cU,aA,show ((2:Int)==1)=false from rfl,PG,qh,Int.reduceBEq,h1,h2,h3,h4,h5,h6,h7,h8,h9,h10,h11,h21,h22,h23,h24,h25,h26,h27]
 rw [hm];simp [NK,Rz,hq,h1,h2,h3,h4,h5,h6,h7,h8,h9,h10,h11,h21,h22,h23,h24,h25,h26,h27]
theorem Wi (a:Int):oa [.int a]=some [.int (NK a), .bool (Rz a), .bool (Gx a)]:=by
 refine NL (a:=a) (P:=fun a=>oa [.int a]=some [.int (NK a), .bool (Rz a), .bool (Gx a)]) rfl rfl rfl rfl rfl rfl rfl rfl rfl rfl rfl rfl rfl rfl rfl rfl rfl rfl ?_;intro h1 h2 h3 h4 h5 h6 h7 h8 h9 h10 h11 h21 h22 h23 h24 h25 h26 h27;have hq:Gx a=false:=by
  simp only [beq_eq_false_iff_ne,ne_eq] at*;simp [Gx,bE,cI]; omega
 simp only [oa,aA,toInt_int,hq,NK,Rz,h1,h2,h3,h4,h5,h6,h7,h8,h9,h10,h11,h21,h22,h23,h24,h25,h26,h27];rfl
def RA (a:Int):Bool:=bE a 21&&cI a 27
theorem IN (a:Int) (l1: -9223372036854775808≤a) (l2:a<18446744073709551616):eE [.bool false, .int a]=some [.int (cond (Gx a) (NK a) 0), .bool (Gx a&&Rz a), .bool (Gx a)]:=by
 refine NL (a:=a) (P:=fun a=>eE [.bool false, .int a]=some [.int (cond (Gx a) (NK a) 0), .bool (Gx a&&Rz a), .bool (Gx a)]) rfl rfl rfl rfl rfl rfl rfl rfl rfl rfl rfl rfl rfl rfl rfl rfl rfl rfl ?_;intro h1 h2 h3 h4 h5 h6 h7 h8 h9 h10 h11 h21 h22 h23 h24 h25 h26 h27;have hq:Gx a=false:=by
  simp only [beq_eq_false_iff_ne,ne_eq] at*;simp [Gx,bE,cI]; omega
 have hk:(aK a 1||bE a ((12:Nat):Int))=true:=by
  simp only [beq_eq_false_iff_ne,ne_eq] at*;simp [aK,bE]; omega
 simp only [eE,aA,aQ,bJ,toInt_int,ak,hq,h4,h5,h11,cond_false,aR,aE];cases e:aK a 1 with
 |true=>rfl
 |false=>
  rw [e,Bool.false_or] at hk;simp only [cond_false,List.length_cons,List.length_nil];rw [show bE a ((0+1+1+1+1+1+1+1+1+1+1+1+1:Nat):Int)=true from hk]; rfl
theorem IP (a:Int) (l1: -9223372036854775808≤a) (l2:a<18446744073709551616):eE [.bool true, .int a]=some [.int (cond (RA a) (NK a) 0), .bool (RA a&&Rz a), .bool (RA a)]:=by
 refine NL (a:=a) (P:=fun a=>eE [.bool true, .int a]=some [.int (cond (RA a) (NK a) 0), .bool (RA a&&Rz a), .bool (RA a)]) rfl rfl rfl rfl rfl rfl rfl rfl rfl rfl rfl rfl rfl rfl rfl rfl rfl rfl ?_;intro h1 h2 h3 h4 h5 h6 h7 h8 h9 h10 h11 h21 h22 h23 h24 h25 h26 h27;have hq:RA a=false:=by
  simp only [beq_eq_false_iff_ne,ne_eq] at*;simp [RA,bE,cI]; omega
 simp only [eE,aA,aQ,bJ,toInt_int,ak,hq,h4,h5,h11,h24,h25,h26,cond_false,cond_true,aR,aE,List.length_cons,List.length_nil];have hk:aK a 0=true∨(aK a 0=false∧(aK (IntKind.i64.wrap (IntKind.i64.wrap (a - 21)+1)) 1||bE (IntKind.i64.wrap (IntKind.i64.wrap (a - 21)+1)) ((0+1+1+1+1+1+1+1+1:Nat):Int))=true):=by
  simp only [beq_eq_false_iff_ne,ne_eq] at*;by_cases h0:a<0
  ·exact .inl (by simp [aK,h0])
  ·refine .inr ⟨by simp [aK,h0], ?_⟩
   by_cases hb:a<9223372036854775808
   ·rw [wrap_i64 (n:=a - 21) (by omega) (by omega),wrap_i64 (by omega) (by omega)]
    simp [aK,bE]; omega
   ·simp [aK,bE,IntKind.wrap,IntKind.bits,IntKind.signed]; omega
 generalize aK (IntKind.i64.wrap (IntKind.i64.wrap (a - 21)+1)) 1=b1 at*;generalize bE (IntKind.i64.wrap (IntKind.i64.wrap (a - 21)+1)) _=b2 at*;rcases hk with hk|⟨hk,hk'⟩
 ·rw [hk]; cases b1<;>cases b2<;>rfl
 ·rw [hk]; cases b1<;>cases b2<;>first|rfl|exact absurd hk' (by simp)
end
end Go.Sy.V
namespace Go.Sy.V
open PV Go.Sy
noncomputable section
def E6 (k a:Int):Int:=cond (k==1||k==2) 0 (cond (k==3||(k==6||k==9)) 1 (cond (k==4) (cond (a==8||a==17) 1 2) (cond (k==7||k==8) (NK a) 0)))
def E7 (k a:Int):Int:=cond (k==1||k==2) 1 (cond (k==4||k==7) 1 0)
def xP (x:PV):Int:=E6 (aj x 0).toInt (aj x 1).toInt
def Cl (x:PV):Int:=E7 (aj x 0).toInt (aj x 1).toInt
theorem QV (x:PV):nA [x]=some [.int (xP x), .int (Cl x)]:=by
 simp only [nA,aA,vB,an,toInt_int,xP,Cl];generalize (aj x 0).toInt=k;generalize (aj x 1).toInt=a;by_cases e1:k=1
 ·subst e1; rfl
 by_cases e2:k=2
 ·subst e2; rfl
 by_cases e3:k=3
 ·subst e3; rfl
 by_cases e4:k=4
 ·subst e4; simp only [E6,E7]; cases a==8<;>cases a==17<;>rfl
 by_cases e5:k=5
 ·subst e5; rfl
 by_cases e6:k=6
 ·subst e6; rfl
 by_cases e7:k=7
 ·subst e7; rfl
 by_cases e8:k=8
 ·subst e8; rfl
 by_cases e9:k=9
 ·subst e9; rfl
 by_cases JB:k=10
 ·subst JB; rfl
 by_cases JC:k=11
 ·subst JC; rfl
 simp only [E6,E7,beq_eq_false_iff_ne.2 e1,beq_eq_false_iff_ne.2 e2,beq_eq_false_iff_ne.2 e3,beq_eq_false_iff_ne.2 e4,beq_eq_false_iff_ne.2 e5,beq_eq_false_iff_ne.2 e6,beq_eq_false_iff_ne.2 e7,beq_eq_false_iff_ne.2 e8,beq_eq_false_iff_ne.2 e9,beq_eq_false_iff_ne.2 JB,beq_eq_false_iff_ne.2 JC];rfl
theorem SZ (x:PV) (w:Wf x) (hq:(aj x 0).toInt=7→Gx (aj x 1).toInt=true) (hd:(aj x 0).toInt=8→RA (aj x 1).toInt=true):pJ [x]=some [.int (xP x), .int (Cl x)]:=by
 simp only [pJ,aA,IN _ (w.aj 1).lo (w.aj 1).hi,IP _ (w.aj 1).lo (w.aj 1).hi,an,toInt_int,xP,Cl];generalize (aj x 0).toInt=k at*;generalize (aj x 1).toInt=a at*;by_cases e1:k=1
 ·subst e1; rfl
 by_cases e2:k=2
 ·subst e2; rfl
 by_cases e3:k=3
 ·subst e3; rfl
 by_cases e4:k=4
 ·subst e4; simp only [E6,E7]; cases a==8<;>cases a==17<;>rfl
 by_cases e5:k=5
 ·subst e5; rfl
 by_cases e6:k=6
 ·subst e6; rfl
 by_cases e7:k=7
 ·subst e7; rw [hq rfl]; rfl
 by_cases e8:k=8
 ·subst e8; rw [hd rfl]; rfl
 by_cases e9:k=9
 ·subst e9; rfl
 by_cases JB:k=10
 ·subst JB; rfl
 by_cases JC:k=11
 ·subst JC; rfl
 simp only [E6,E7,beq_eq_false_iff_ne.2 e1,beq_eq_false_iff_ne.2 e2,beq_eq_false_iff_ne.2 e3,beq_eq_false_iff_ne.2 e4,beq_eq_false_iff_ne.2 e5,beq_eq_false_iff_ne.2 e6,beq_eq_false_iff_ne.2 e7,beq_eq_false_iff_ne.2 e8,beq_eq_false_iff_ne.2 e9,beq_eq_false_iff_ne.2 JB,beq_eq_false_iff_ne.2 JC];rfl
def Zd (k a:Int):Int:=cond (k==1||k==2) 1 (cond (k==3||(k==6||k==9)) (-1) (cond (k==4) (cond (a==8||a==17) 0 (-1)) (cond (k==7) (IntKind.i64.wrap (1 - NK a)) (cond (k==8) (IntKind.i64.wrap (0 - NK a)) 0))))
def chg (x:PV):Int:=Zd (aj x 0).toInt (aj x 1).toInt
theorem Wj (x:PV):og [x]=some [.int (chg x)]:=by
 simp only [og,aA,vB,an,toInt_int,chg];generalize (aj x 0).toInt=k;generalize (aj x 1).toInt=a;by_cases e1:k=1
 ·subst e1; rfl
 by_cases e2:k=2
 ·subst e2; rfl
 by_cases e3:k=3
 ·subst e3; rfl
 by_cases e4:k=4
 ·subst e4; simp only [Zd]; cases a==8<;>cases a==17<;>rfl
 by_cases e5:k=5
 ·subst e5; rfl
 by_cases e6:k=6
 ·subst e6; rfl
 by_cases e7:k=7
 ·subst e7; rfl
 by_cases e8:k=8
 ·subst e8; rfl
 by_cases e9:k=9
 ·subst e9; rfl
 by_cases JB:k=10
 ·subst JB; rfl
 by_cases JC:k=11
 ·subst JC; rfl
 simp only [E6,E7,Zd,beq_eq_false_iff_ne.2 e1,beq_eq_false_iff_ne.2 e2,beq_eq_false_iff_ne.2 e3,beq_eq_false_iff_ne.2 e4,beq_eq_false_iff_ne.2 e5,beq_eq_false_iff_ne.2 e6,beq_eq_false_iff_ne.2 e7,beq_eq_false_iff_ne.2 e8,beq_eq_false_iff_ne.2 e9,beq_eq_false_iff_ne.2 JB,beq_eq_false_iff_ne.2 JC];rfl
theorem S0 (x:PV):l_ [x]=some [.int (chg x)]:=by
 simp only [l_,aA,Wi,an,toInt_int,chg];generalize (aj x 0).toInt=k;generalize (aj x 1).toInt=a;by_cases e1:k=1
 ·subst e1; rfl
 by_cases e2:k=2
 ·subst e2; rfl
 by_cases e3:k=3
 ·subst e3; rfl
 by_cases e4:k=4
 ·subst e4; simp only [Zd,bne]; cases a==8<;>cases a==17<;>rfl
 by_cases e5:k=5
 ·subst e5; rfl
 by_cases e6:k=6
 ·subst e6; rfl
 by_cases e7:k=7
 ·subst e7; rfl
 by_cases e8:k=8
 ·subst e8; rfl
 by_cases e9:k=9
 ·subst e9; rfl
 by_cases JB:k=10
 ·subst JB; rfl
 by_cases JC:k=11
 ·subst JC; rfl
 simp only [E6,E7,Zd,beq_eq_false_iff_ne.2 e1,beq_eq_false_iff_ne.2 e2,beq_eq_false_iff_ne.2 e3,beq_eq_false_iff_ne.2 e4,beq_eq_false_iff_ne.2 e5,beq_eq_false_iff_ne.2 e6,beq_eq_false_iff_ne.2 e7,beq_eq_false_iff_ne.2 e8,beq_eq_false_iff_ne.2 e9,beq_eq_false_iff_ne.2 JB,beq_eq_false_iff_ne.2 JC];rfl
theorem S1 (c:PV) (s:ByteArray) (h:(aj c 0).toList.length≤aN):lK [c, .str s]=some [.bool ((aj c 0).toList.any (mE s))]:=by
 simp only [lK,aA,aQ,aS];rw [dx _ h _ (mE s)]
 ·simp only [aA,toInt_int,show bE 0 0=true from rfl,show bE (-1) 0=false from rfl]
  cases List.any _ _<;>rfl
 ·intro i hi hm
  simp only [aA,toInt_int,aB hi,au,mE];cases aM _ _<;>rfl
 ·intro i; simp [bE]
theorem Wk (c:PV) (s:ByteArray) (h:(aj c 0).toList.length≤aN):rO [c, .str s]=some [.bool ((aj c 0).toList.any (mE s))]:=by
 simp only [rO,aA,aQ,aS];rw [aY _ h [] _ _ [.bool true] (fun x=> !mE s x)]
 ·simp [List.any_eq_not_all_not]
 ·intro i hi hm
  simp only [aA,toInt_int,aB hi,au,mE];cases aM _ _<;>rfl
def sN (k a:Int) (n0 se nb en:Bool) (sl fr to:Int):Bool:=
 cond (k==1) (a==0&&se)
 (cond (k==2||k==3) (bE a 0&&(aK a sl&&(n0&&se)))
 (cond (k==4) (bE a 3&&(cI a 17&&(n0&&se)))
 (cond (k==5||k==6) (bE a fr&&(aK a to&&(n0&&se)))
 (cond (k==7||k==8) (cond (k==8) (RA a) (Gx a)&&(n0&&((Rz a&&nb)||(!Rz a&&se))))
 (cond (k==10) (a==0&&(n0&&en))
 (cond (k==9||k==11) (a==0&&(n0&&se)) false))))))
def E8 (E:List PV) (sl fr to:Int) (x:PV):Bool:=sN (aj x 0).toInt (aj x 1).toInt ((aj x 2).toInt==0) (aM (aj x 3).toStr em) (eN (aj x 3).toStr) (E.any (mE (aj x 3).toStr)) sl fr to
theorem Wl (E I:List PV) (fr to sl:Int) (x:PV) (w:Wf x) (hE:E.length≤aN):fJ [.agg [.list E, .list I, .int fr, .int to, .int sl],x]=some [.bool (E8 E sl fr to x)]:=by
 have e1:lK [aJ (.agg [.list E, .list I, .int fr, .int to, .int sl]) 0 2, .str (aj x 3).toStr]=some [.bool (E.any (mE (aj x 3).toStr))]:=S1 _ _ hE;simp only [fJ,aA,aQ,bJ,ga,kW,cU,toInt_int,vB,jQ _ (w.aj 3).size,e1,an,ak,E8,show ByteArray.mk #[]=em from rfl];generalize (aj x 0).toInt=k;generalize (aj x 1).toInt=a;generalize ((aj x 2).toInt==0)=n0;generalize aM (aj x 3).toStr em=se;generalize eN (aj x 3).toStr=nb;generalize List.any _ _=en;simp only [sN,RA];generalize Gx a=q;generalize Rz a=t;generalize bE a 21=d1;generalize cI a 27=d2;generalize bE a 0=g0;generalize aK a sl=g1;generalize bE a 3=g2;generalize cI a 17=g3;generalize bE a fr=g4;generalize aK a to=g5;generalize (a==0)=a0;by_cases e1:k=1; · subst e1; cases a0<;>cases se<;>rfl
 by_cases e2:k=2; · subst e2; cases g0<;>cases g1<;>cases n0<;>cases se<;>rfl
 by_cases e3:k=3; · subst e3; cases g0<;>cases g1<;>cases n0<;>cases se<;>rfl
 by_cases e4:k=4; · subst e4; cases g2<;>cases g3<;>cases n0<;>cases se<;>rfl
 by_cases e5:k=5; · subst e5; cases g4<;>cases g5<;>cases n0<;>cases se<;>rfl
 by_cases e6:k=6; · subst e6; cases g4<;>cases g5<;>cases n0<;>cases se<;>rfl
 by_cases e7:k=7; · subst e7; cases q<;>cases n0<;>cases t<;>cases nb<;>cases se<;>rfl
 by_cases e8:k=8; · subst e8; cases d1<;>cases d2<;>cases n0<;>cases t<;>cases nb<;>cases se<;>rfl
 by_cases e9:k=9; · subst e9; cases a0<;>cases n0<;>cases se<;>rfl
 by_cases JB:k=10; · subst JB; cases a0<;>cases n0<;>cases en<;>rfl
 by_cases JC:k=11; · subst JC; cases a0<;>cases n0<;>cases se<;>rfl
 simp only [beq_eq_false_iff_ne.2 e1,beq_eq_false_iff_ne.2 e2,beq_eq_false_iff_ne.2 e3,beq_eq_false_iff_ne.2 e4,beq_eq_false_iff_ne.2 e5,beq_eq_false_iff_ne.2 e6,beq_eq_false_iff_ne.2 e7,beq_eq_false_iff_ne.2 e8,beq_eq_false_iff_ne.2 e9,beq_eq_false_iff_ne.2 JB,beq_eq_false_iff_ne.2 JC];rfl
theorem Ze (c x:PV) (fr to sl:Int) (w:Wf x) (hE:(aj c 0).toList.length≤aN):qp [c,x, .int sl, .int fr, .int to]=some [.bool (E8 (aj c 0).toList sl fr to x)]:=by
 simp only [qp,aA,aQ,bJ,ga,kW,toInt_int,xI _ (w.aj 3).size,Wk c _ hE,E8,show ByteArray.mk #[]=em from rfl];have hargs: ∀ k:Int,k=7∨k=8→eE [.bool (k==8), .int (aj x 1).toInt]=some [.int (cond (cond (k==8) (RA (aj x 1).toInt) (Gx (aj x 1).toInt)) (NK (aj x 1).toInt) 0), .bool (cond (k==8) (RA (aj x 1).toInt) (Gx (aj x 1).toInt)&&Rz (aj x 1).toInt), .bool (cond (k==8) (RA (aj x 1).toInt) (Gx (aj x 1).toInt))]:=by
  rintro k (rfl|rfl)
  ·exact IN _ (w.aj 1).lo (w.aj 1).hi
  ·exact IP _ (w.aj 1).lo (w.aj 1).hi
 generalize (aj x 0).toInt=k at*;generalize (aj x 1).toInt=a at*;simp only [bne];generalize ((aj x 2).toInt==0)=n0;generalize aM (aj x 3).toStr em=se;generalize eN (aj x 3).toStr=nb;generalize List.any _ _=en;simp only [sN];generalize bE a 0=g0;generalize aK a sl=g1;generalize bE a 3=g2;generalize cI a 17=g3;generalize bE a fr=g4;generalize aK a to=g5;generalize (a==0)=a0;by_cases e7:k=7
 ·rw [hargs k (.inl e7)]; subst e7; generalize Gx a=q; generalize Rz a=t; cases q<;>cases n0<;>cases t<;>cases nb<;>cases se<;>rfl
 by_cases e8:k=8
 ·rw [hargs k (.inr e8)]; subst e8; generalize RA a=q; generalize Rz a=t; cases q<;>cases n0<;>cases t<;>cases nb<;>cases se<;>rfl
 have h78:((k==7)=false)∧((k==8)=false):=⟨beq_eq_false_iff_ne.2 e7,beq_eq_false_iff_ne.2 e8⟩;simp only [h78.1,h78.2];by_cases e1:k=1; · subst e1; cases a0<;>cases n0<;>cases se<;>rfl
 by_cases e2:k=2; · subst e2; cases g0<;>cases g1<;>cases n0<;>cases se<;>rfl
 by_cases e3:k=3; · subst e3; cases g0<;>cases g1<;>cases n0<;>cases se<;>rfl
 by_cases e4:k=4; · subst e4; cases g2<;>cases g3<;>cases n0<;>cases se<;>rfl
 by_cases e5:k=5; · subst e5; cases g4<;>cases g5<;>cases n0<;>cases se<;>rfl
 by_cases e6:k=6; · subst e6; cases g4<;>cases g5<;>cases n0<;>cases se<;>rfl
 by_cases e9:k=9; · subst e9; cases a0<;>cases n0<;>cases se<;>rfl
 by_cases JB:k=10; · subst JB; cases a0<;>cases n0<;>cases se<;>cases en<;>rfl
 by_cases JC:k=11; · subst JC; cases a0<;>cases n0<;>cases se<;>rfl
 simp only [beq_eq_false_iff_ne.2 e1,beq_eq_false_iff_ne.2 e2,beq_eq_false_iff_ne.2 e3,beq_eq_false_iff_ne.2 e4,beq_eq_false_iff_ne.2 e5,beq_eq_false_iff_ne.2 e6,beq_eq_false_iff_ne.2 e9,beq_eq_false_iff_ne.2 JB,beq_eq_false_iff_ne.2 JC];cases n0<;>cases se<;>rfl
end
end Go.Sy.V
namespace Go.Sy.V
open PV Go.Sy
noncomputable section
theorem S2 (p:Nat→Bool) (k i:Nat):aZ p (k+1) i=(p i&&aZ p k (i+1)):=by
 simp only [aZ,scan]; cases p i<;>rfl
theorem mq {R:Type} (f:List PV→Option (List PV ⊕ R)) (n:Nat) (St:Nat→List PV) (p:Nat→Bool) (bad:R) (E:Option R)
  (hB: ∀ k,k<n→(∀ j,j<k→p j=true)→f (St k)=some (cond (p k) (.inl (St (k+1))) (.inr bad)))
  (hE:(∀ j,j<n→p j=true)→f (St n)=ay E):iter f (St 0)=cond (aZ p n 0) E (some bad):=by
 have key: ∀ k i,i+k=n→(∀ j,j<i→p j=true)→iter f (St i)=cond (aZ p k i) E (some bad):=by
  intro k;induction k with
  |zero=>
   intro i e hp;obtain rfl:i=n:=by omega
   rw [b_,hE hp]; simp only [aZ,scan,cond_true]; cases E<;>rfl
  |succ k ih=>
   intro i e hp;rw [b_,hB i (by omega) hp,S2];cases h:p i with
   |false=>rfl
   |true=>
    simp only [cond_true,aR,Bool.true_and];exact ih (i+1) (by omega) (fun j hj=>by
     by_cases e:j=i
     ·subst e; exact h
     ·exact hp j (by omega))
 exact key n 0 (by omega) (fun j hj=>by omega)
def sO (E:List PV) (i:Nat):Int:=(aj (rd E i) 1).toInt
def C7 (E:List PV) (i:Nat):Int:=(aj (rd E i) 2).toInt
def Cm (E I:List PV) (i:Nat):Int:=if i+1<E.length then sO E (i+1) else I.length
def NM (E I:List PV) (i:Nat):PV:= .agg [.list E, .list I, .int (sO E i), .int (Cm E I i), .int (C7 E i)]
def Cn (E I:List PV) (i:Nat):Bool:=(aj (rd I (IntKind.i64.wrap (Cm E I i - 1))) 0).toInt==11
def E9 (E I:List PV) (i:Nat):Bool:= !((((i:Int)==0)&&(sO E i != 0))||(aK (sO E i) 0||(cI (Cm E I i) (sO E i)||(bq (Cm E I i) (I.length:Int)||(aK (C7 E i) 0||bq (C7 E i) 32)))))&&Cn E I i
theorem toK {R:Type} (E I:List PV) (i:Nat) (hi:i<E.length) (hE:E.length≤4096) (k:List PV→Option R):aq (cond (aK (IntKind.i64.wrap ((i:Int)+1)) (E.length:Int)) (aC (bp (IntKind.i64.wrap ((i:Int)+1)) E.length) (some (.inl [.int (aj (rd E (IntKind.i64.wrap ((i:Int)+1))) 1).toInt]))) (some (.inl [.int (I.length:Int)]))) k=k [.int (Cm E I i)]:=by
 rw [wrap_i64 (by omega) (by omega)];by_cases h:i+1<E.length
 ·rw [show ((i:Int)+1)=((i+1:Nat):Int) from rfl,e_ h,aB h]
  simp [Cm,h,sO]
 ·rw [show ((i:Int)+1)=((i+1:Nat):Int) from rfl,iQ h]
  simp [Cm,h]
theorem Kb (E I:List PV) (hE:E.length≤4096) (hI:I.length≤4096) (c:PV) (h0:(aj c 0).toList=E) (h1:(aj c 1).toList=I):
  jr [c]=some (cond (aZ (E9 E I) E.length 0) [.list ((List.range E.length).map (NM E I)), .bool true] [.list [], .bool false]):=by
 simp only [jr,aA,h0,h1];refine (mq (R:=List PV) _ E.length (fun i=>[.list ((List.range i).map (NM E I)), .int i]) (E9 E I) [.list [], .bool false] (some [.list ((List.range E.length).map (NM E I)), .bool true]) ?_ ?_).trans ?_
 ·intro i hi _
  simp only [aA,aQ,toInt_int,aE,e_ hi,aB hi,cond_true,au,toK E I i hi hE];rw [show (aj (rd E i) 1).toInt=sO E i from rfl,show (aj (rd E i) 2).toInt=C7 E i from rfl];have hm:aK (sO E i) 0=false→cI (Cm E I i) (sO E i)=false→bq (Cm E I i) (I.length:Int)=false→bp (IntKind.i64.wrap (Cm E I i - 1)) I.length=true:=by
   simp only [aK,cI,bq,decide_eq_false_iff_not];intro a b d;rw [wrap_i64 (by omega) (by omega)]; simp [bp]; omega
  have hst:(((aj (rd I (IntKind.i64.wrap (Cm E I i - 1))) 0).toInt != 11))= !Cn E I i:=rfl;rw [bh (by omega) (by simp; omega),hst];have adh:(List.range i).map (NM E I)++[.agg [.list E, .list I, .int (sO E i), .int (Cm E I i), .int (C7 E i)]]=(List.range (i+1)).map (NM E I):=by
   rw [List.range_succ,List.map_append]; rfl
  rw [adh,show IntKind.i64.wrap ((i:Int)+1)=((i+1:Nat):Int) from wrap_i64 (by omega) (by omega)];simp only [E9];generalize ((i:Int)==0)=z;generalize (sO E i != 0)=nz;generalize Cn E I i=sb;generalize aK (C7 E i) 0=s0;generalize bq (C7 E i) 32=s1
  revert hm
  generalize bp (IntKind.i64.wrap (Cm E I i - 1)) I.length=m;generalize aK (sO E i) 0=b0;generalize cI (Cm E I i) (sO E i)=b1;generalize bq (Cm E I i) (I.length:Int)=b2;intro hm;cases b0<;>cases b1<;>cases b2<;>cases s0<;>cases s1<;>cases z<;>cases nz<;>first|rfl|(rw [hm rfl rfl rfl]; cases sb<;>rfl)
 ·intro _
  simp only [aA,aQ,toInt_int,aE,iQ (Nat.lt_irrefl _),cond_false]
 ·cases aZ _ _ _<;>rfl
end
end Go.Sy.V
namespace Go.Sy.V
open PV Go.Sy
noncomputable section
theorem LJ (a b:Int):eM (.int a) (.int b)=(a==b):=rfl
theorem IQ {a:Int} {q:PV}:eM (.int a) q=true↔q= .int a:=by
 cases q with
 |int b=>simp only [eM,beq_iff_eq,PV.int.injEq]; exact eq_comm
 |_=>simp [eM]
theorem IS (l:List PV) (a b:Int) (v:PV):qh (cL l (.int a) v) (.int b)=cond (b==a) (some v) (qh l (.int b)):=by
 induction l with
 |nil=>
  simp only [cL,qh,cU,aA,aQ,LJ];cases b==a<;>rfl
 |cons p l ih=>
  simp only [cL];cases h:eM (.int a) (aj p 0) with
  |true=>
   have hp:=IQ.1 h;simp only [qh,cU,aA,aQ,hp,LJ];cases b==a<;>rfl
  |false=>
   simp only [qh,ih];cases h2:eM (.int b) (aj p 0) with
   |false=>rfl
   |true=>
    have hp:=IQ.1 h2;cases h3:b==a with
    |false=>rfl
    |true=>
     rw [← beq_iff_eq.1 h3,h2] at h; exact absurd h (by simp)
theorem adi (a:Int): -1≤NK a:=by
 simp only [NK];generalize (a==1||_)=b1;generalize (a==5||_)=b2;generalize (a==22)=b3;generalize (a==21||_)=b4;cases b1<;>cases b2<;>cases b3<;>cases b4<;>decide
theorem adj (a:Int):NK a≤3:=by
 simp only [NK];generalize (a==1||_)=b1;generalize (a==5||_)=b2;generalize (a==22)=b3;generalize (a==21||_)=b4;cases b1<;>cases b2<;>cases b3<;>cases b4<;>decide
theorem Zg (x:PV): -1≤xP x∧xP x≤3:=by
 have h1:=adi (aj x 1).toInt; have h2:=adj (aj x 1).toInt;simp only [xP,E6];generalize NK _=n at*;generalize ((aj x 0).toInt==1||_)=b1;generalize ((aj x 0).toInt==3||_)=b2;generalize ((aj x 0).toInt==4)=b3;generalize ((aj x 0).toInt==7||_)=b4;generalize ((aj x 1).toInt==8||_)=b5;cases b1<;>cases b2<;>cases b3<;>cases b4<;>cases b5<;>simp<;>omega
theorem S3 (x:PV):0≤Cl x∧Cl x≤1:=by
 simp only [Cl,E7];generalize ((aj x 0).toInt==1||_)=b1;generalize ((aj x 0).toInt==4||_)=b2;cases b1<;>cases b2<;>simp
def dp (I:List PV) (f:Nat):Nat→Int
 |0=>0
 |k+1=>dp I f k - xP (rd I (f+k:Nat))+Cl (rd I (f+k:Nat))
def stB (k:Int):Bool:= !(k==1)&&(!(k==2)&&(!(k==4)&& !(k==7)))
def ZI (I:List PV) (f k:Nat):Bool:= !aK (dp I f k) (xP (rd I (f+k:Nat)))&&(!bq (dp I f (k+1)) 32&&(!stB (aj (rd I (f+k:Nat)) 0).toInt||dp I f (k+1)==0))
def WJ (I:List PV) (f k:Nat):Bool:= !(((aj (rd I (f+k:Nat)) 0).toInt==5||(aj (rd I (f+k:Nat)) 0).toInt==6)&&(dp I f ((aj (rd I (f+k:Nat)) 1).toInt - f).toNat != 0))
def NN (E I:List PV) (sl:Int) (f t k:Nat):Bool:=E8 E sl f t (rd I (f+k:Nat))
theorem afY {I:List PV} {f k:Nat} (h: ∀ j,j<k→ZI I f j=true):0≤dp I f k∧dp I f k≤32:=by
 cases k with
 |zero=>exact ⟨Int.le_refl _,by simp [dp]⟩
 |succ k=>
  have:=h k (by omega);simp only [ZI,Bool.and_eq_true,Bool.not_eq_true',aK,bq,decide_eq_false_iff_not] at this;have hp:=S3 (rd I (f+k:Nat));refine ⟨?_,by omega⟩;simp only [dp]; omega
theorem aaN {k a:Int} {n0 se nb en:Bool} {sl fr to:Int} (h:sN k a n0 se nb en sl fr to=true):1≤k∧k≤11:=by
 by_cases hk:1≤k∧k≤11
 ·exact hk
 ·exfalso
  have f: ∀ j:Int,1≤j→j≤11→(k==j)=false:=fun j h1 h2=>beq_eq_false_iff_ne.2 (by omega)
  simp only [sN,f 1 (by omega) (by omega),f 2 (by omega) (by omega),f 3 (by omega) (by omega),f 4 (by omega) (by omega),f 5 (by omega) (by omega),f 6 (by omega) (by omega),f 7 (by omega) (by omega),f 8 (by omega) (by omega),f 9 (by omega) (by omega),f 10 (by omega) (by omega),f 11 (by omega) (by omega)] at h;exact absurd h (by simp)
theorem LK {k a:Int} {n0 se nb en:Bool} {sl fr to:Int} (h:sN k a n0 se nb en sl fr to=true) (hk:k=5∨k=6):fr≤a∧a<to:=by
 rcases hk with rfl|rfl<;>
 ·simp only [sN,show ((5:Int)==1)=false from rfl,show ((5:Int)==2)=false from rfl,show ((5:Int)==3)=false from rfl,show ((5:Int)==4)=false from rfl,show ((5:Int)==5)=true from rfl,show ((6:Int)==1)=false from rfl,show ((6:Int)==2)=false from rfl,show ((6:Int)==3)=false from rfl,show ((6:Int)==4)=false from rfl,show ((6:Int)==5)=false from rfl,show ((6:Int)==6)=true from rfl,Bool.or_false,Bool.or_true,Bool.true_or,cond_true,cond_false,Bool.and_eq_true,bE,aK,decide_eq_true_eq] at h
  exact ⟨h.1,h.2.1⟩
theorem adk {k a:Int} {n0 se nb en:Bool} {sl fr to:Int} (h:sN k a n0 se nb en sl fr to=true):(k=7→Gx a=true)∧(k=8→RA a=true):=by
 constructor
 ·rintro rfl
  simp only [sN,show ((7:Int)==1)=false from rfl,show ((7:Int)==2)=false from rfl,show ((7:Int)==3)=false from rfl,show ((7:Int)==4)=false from rfl,show ((7:Int)==5)=false from rfl,show ((7:Int)==6)=false from rfl,show ((7:Int)==7)=true from rfl,show ((7:Int)==8)=false from rfl,Bool.or_false,Bool.or_true,Bool.true_or,cond_true,cond_false,Bool.and_eq_true] at h;exact h.1
 ·rintro rfl
  simp only [sN,show ((8:Int)==1)=false from rfl,show ((8:Int)==2)=false from rfl,show ((8:Int)==3)=false from rfl,show ((8:Int)==4)=false from rfl,show ((8:Int)==5)=false from rfl,show ((8:Int)==6)=false from rfl,show ((8:Int)==7)=false from rfl,show ((8:Int)==8)=true from rfl,Bool.or_false,Bool.or_true,Bool.false_or,cond_true,cond_false,Bool.and_eq_true] at h;exact h.1
def mpK (I:List PV) (f:Nat):Nat→List PV
 |0=>[]
 |k+1=>cL (mpK I f k) (.int ((f+k:Nat):Int)) (.int (dp I f k))
theorem aaO (I:List PV) (f:Nat) (k j:Nat) (h:j<k):qh (mpK I f k) (.int ((f+j:Nat):Int))=some (.int (dp I f j)):=by
 induction k with
 |zero=>omega
 |succ k ih=>
  simp only [mpK,IS];by_cases e:j=k
  ·subst e; simp
  ·rw [show (((f+j:Nat):Int)==((f+k:Nat):Int))=false from beq_eq_false_iff_ne.2 (by omega)]
   exact ih (by omega)
theorem Kc (E I:List PV) (sl:Int) (f t:Nat) (hft:f≤t) (htI:t≤I.length) (hI:I.length≤4096) (hfm: ∀ k,k<t - f→NN E I sl f t k=true):
  dX [.agg [.list E, .list I, .int f, .int t, .int sl]]=some [.bool (aZ (ZI I f) (t - f) 0&&aZ (WJ I f) (t - f) 0)]:=by
 simp only [dX,aA,cU,aQ,bJ,ga,toInt_int,aE];refine (mq (R:=List PV) _ (t - f) (fun k=>[.int (dp I f k), .int ((f+k:Nat):Int), .list (mpK I f k)]) (ZI I f) [.bool false] (some [.bool (aZ (WJ I f) (t - f) 0)]) ?_ ?_).trans ?_
 ·intro k hk hp
  have hd:=afY hp;have hT:=Zg (rd I (f+k:Nat)); have hP:=S3 (rd I (f+k:Nat));simp only [aA,aQ,bJ,toInt_int,aE,e_ (show f+k<t by omega),aB (show f+k<I.length by omega),cond_true,au,QV,an,qV,IS,beq_self_eq_true];have e1:IntKind.i64.wrap (IntKind.i64.wrap (dp I f k - xP (rd I (f+k:Nat)))+Cl (rd I (f+k:Nat)))=dp I f (k+1):=by
   rw [wrap_i64 (n:=dp I f k - xP _) (by omega) (by omega),wrap_i64 (by omega) (by omega)]; rfl
  have e2:IntKind.i64.wrap (dp I f k+IntKind.i64.wrap (Cl (rd I (f+k:Nat)) - xP (rd I (f+k:Nat))))=dp I f (k+1):=by
   rw [wrap_i64 (n:=Cl _ - xP _) (by omega) (by omega),wrap_i64 (by omega) (by omega)]; simp only [dp]; omega
  have e3:IntKind.i64.wrap (((f+k:Nat):Int)+1)=((f+(k+1):Nat):Int):=wrap_i64 (n:=((f+k:Nat):Int)+1) (by omega) (by omega);rw [e1,e2,e3,show cL (mpK I f k) (.int ((f+k:Nat):Int)) (.int (dp I f k))=mpK I f (k+1) from rfl];have hop:=aaN (hfm k hk);simp only [ZI];have hsame:(aj (rd I (f+k:Nat)) 0).toInt=5∨(aj (rd I (f+k:Nat)) 0).toInt=10∨(aj (rd I (f+k:Nat)) 0).toInt=11→dp I f (k+1)=dp I f k:=by
   intro ho;have:xP (rd I (f+k:Nat))=0∧Cl (rd I (f+k:Nat))=0:=by
    simp only [xP,Cl];rcases ho with ho|ho|ho<;>rw [ho]<;>exact ⟨rfl,rfl⟩
   simp only [dp,this.1,this.2]; omega
  generalize aK (dp I f k) _=b1;generalize bq (dp I f (k+1)) 32=b2;simp only [bne]
  revert hsame
  generalize dp I f (k+1)=d';generalize dp I f k=d;generalize (aj (rd I (f+k:Nat)) 0).toInt=op at*;intro hsame;obtain ⟨o1,o2⟩:=hop;by_cases e1:op=1; · subst e1; cases b1<;>cases b2<;>rfl
  by_cases e2:op=2; · subst e2; cases b1<;>cases b2<;>rfl
  by_cases e3:op=3; · subst e3; cases b1<;>cases b2<;>cases d'==0<;>rfl
  by_cases e4:op=4; · subst e4; cases b1<;>cases b2<;>rfl
  by_cases e5:op=5; · subst e5; rw [hsame (by simp)]; cases b1<;>cases b2<;>cases d==0<;>rfl
  by_cases e6:op=6; · subst e6; cases b1<;>cases b2<;>cases d'==0<;>rfl
  by_cases e7:op=7; · subst e7; cases b1<;>cases b2<;>rfl
  by_cases e8:op=8; · subst e8; cases b1<;>cases b2<;>cases d'==0<;>rfl
  by_cases e9:op=9; · subst e9; cases b1<;>cases b2<;>cases d'==0<;>rfl
  by_cases JB:op=10; · subst JB; rw [hsame (by simp)]; cases b1<;>cases b2<;>cases d==0<;>rfl
  by_cases JC:op=11; · subst JC; rw [hsame (by simp)]; cases b1<;>cases b2<;>cases d==0<;>rfl
  omega
 ·intro hall
  simp only [aA,aQ,bJ,toInt_int,aE,iQ (show ¬ f+(t - f)<t by omega),cond_false]
  congr 1
  refine (mq (R:=List PV) _ (t - f) (fun k=>[.int ((f+k:Nat):Int)]) (WJ I f) [.bool false] (some [.bool true]) ?_ ?_).trans ?_
  ·intro k hk _
   simp only [aA,aQ,bJ,toInt_int,aE,e_ (show f+k<t by omega),aB (show f+k<I.length by omega),cond_true,au];have e3:IntKind.i64.wrap (((f+k:Nat):Int)+1)=((f+(k+1):Nat):Int):=wrap_i64 (n:=((f+k:Nat):Int)+1) (by omega) (by omega);rw [e3];have hj:(aj (rd I (f+k:Nat)) 0).toInt=5∨(aj (rd I (f+k:Nat)) 0).toInt=6→(qV (mpK I f (t - f)) (.int (aj (rd I (f+k:Nat)) 1).toInt) (.int 0)).toInt=dp I f ((aj (rd I (f+k:Nat)) 1).toInt - f).toNat:=by
    intro ho;have hr:=LK (hfm k hk) ho;have e4:(aj (rd I (f+k:Nat)) 1).toInt=((f+((aj (rd I (f+k:Nat)) 1).toInt - f).toNat:Nat):Int):=by omega
    have:=aaO I f (t - f) ((aj (rd I (f+k:Nat)) 1).toInt - f).toNat (by omega);rw [← e4] at this;simp only [qV,this,toInt_int]
   simp only [WJ];by_cases h5:(aj (rd I (f+k:Nat)) 0).toInt=5
   ·rw [hj (.inl h5)]; simp only [h5]; generalize (dp I f _ != 0)=b; cases b<;>rfl
   by_cases h6:(aj (rd I (f+k:Nat)) 0).toInt=6
   ·rw [hj (.inr h6)]; simp only [h6]; generalize (dp I f _ != 0)=b; cases b<;>rfl
   simp only [beq_eq_false_iff_ne.2 h5,beq_eq_false_iff_ne.2 h6]; rfl
  ·intro _
   simp only [aA,toInt_int,iQ (show ¬ f+(t - f)<t by omega),cond_false]
  ·cases aZ (WJ I f) _ _<;>rfl
 ·cases aZ (ZI I f) _ _<;>cases aZ (WJ I f) _ _<;>rfl
end
end Go.Sy.V
namespace Go.Sy.V
open PV Go.Sy
noncomputable section
def bfK (I:List PV) (f k:Nat):List PV:=(List.range k).map fun j=> .int (dp I f j)
theorem Wm (k:Int):jA [.int k]=some [.bool (stB k)]:=by
 simp only [jA,aA,toInt_int,stB,bne];cases k==1<;>cases k==2<;>cases k==4<;>cases k==7<;>rfl
def Zh (E I:List PV) (sl:Int) (f t:Nat):Bool:=aZ (NN E I sl f t) (t - f) 0&&(aZ (ZI I f) (t - f) 0&&aZ (WJ I f) (t - f) 0)
theorem yU (p q:Nat→Bool) (k i:Nat):aZ (fun j=>p j&&q j) k i=(aZ p k i&&aZ q k i):=by
 rw [Bool.eq_iff_iff,Bool.and_eq_true,dy,dy,dy];constructor
 ·intro h; exact ⟨fun j a b=>(Bool.and_eq_true _ _ ▸ h j a b).1,fun j a b=>(Bool.and_eq_true _ _ ▸ h j a b).2⟩
 ·rintro ⟨h1,h2⟩ j a b; rw [h1 j a b,h2 j a b]; rfl
theorem QW (c:PV) (E I:List PV) (sl:Int) (f t:Nat) (h0:(aj c 0).toList=E) (h1:(aj c 1).toList=I) (hft:f<t) (htI:t≤I.length) (hI:I.length≤3000) (hE:E.length≤4096) (hw: ∀ x∈I,Wf x):
  nN [c, .int sl, .int f, .int t]=some [.bool (Zh E I sl f t&&((aj (rd I (IntKind.i64.wrap ((t:Int) - 1))) 0).toInt==11))]:=by
 simp only [nN,aA,aQ,bJ,ga,toInt_int,h0,h1];refine (mq (R:=List PV) _ (t - f) (fun k=>[.list (bfK I f k), .int (dp I f k), .int ((f+k:Nat):Int)]) (fun k=>NN E I sl f t k&&ZI I f k) [.bool false] (some [.bool (aZ (WJ I f) (t - f) 0&&((aj (rd I (IntKind.i64.wrap ((t:Int) - 1))) 0).toInt==11))]) ?_ ?_).trans ?_
 ·intro k hk hp
  have hd:=afY (I:=I) (f:=f) (k:=k) (fun j hj=>(Bool.and_eq_true _ _ ▸ hp j hj).2);have hT:=Zg (rd I (f+k:Nat)); have hP:=S3 (rd I (f+k:Nat));have hx:Wf (rd I (f+k:Nat)):=hw _ (m_ (by omega));simp only [aA,aQ,bJ,toInt_int,aE,e_ (show f+k<t by omega),aB (show f+k<I.length by omega),cond_true,au];have e0:qp [c,rd I (f+k:Nat), .int sl, .int f, .int t]=some [.bool (NN E I sl f t k)]:=by
   rw [Ze c _ f t sl hx (by rw [h0]; exact le_max hE),h0]; rfl
  rw [e0];simp only [an,aA,ak];cases hfm:NN E I sl f t k with
  |false=>rfl
  |true=>
  have hq:=adk hfm;rw [bh (by omega) (by simp [bfK]; omega),SZ _ hx hq.1 hq.2];simp only [an,aA,aQ,toInt_int,au,Wm,ak];have e1:IntKind.i64.wrap (IntKind.i64.wrap (dp I f k - xP (rd I (f+k:Nat)))+Cl (rd I (f+k:Nat)))=dp I f (k+1):=by
   rw [wrap_i64 (n:=dp I f k - xP _) (by omega) (by omega),wrap_i64 (by omega) (by omega)]; rfl
  have e3:IntKind.i64.wrap (((f+k:Nat):Int)+1)=((f+(k+1):Nat):Int):=wrap_i64 (n:=((f+k:Nat):Int)+1) (by omega) (by omega);have e4:bfK I f k++[.int (dp I f k)]=bfK I f (k+1):=by simp only [bfK,List.range_succ,List.map_append]; rfl
  rw [e1,e3,e4];simp only [ZI];generalize aK (dp I f k) _=b1;generalize bq (dp I f (k+1)) 32=b2;generalize stB _=b3;simp only [bne];cases b1<;>cases b2<;>cases b3<;>cases dp I f (k+1)==0<;>rfl
 ·intro hall
  have ahY: ∀ k,k<t - f→NN E I sl f t k=true:=fun j hj=>(Bool.and_eq_true _ _ ▸ hall j hj).1
  simp only [aA,aQ,bJ,toInt_int,aE,iQ (show ¬ f+(t - f)<t by omega),cond_false]
  congr 1
  refine (mq (R:=List PV) _ (t - f) (fun k=>[.int ((f+k:Nat):Int)]) (WJ I f) [.bool false] (some [.bool ((aj (rd I (IntKind.i64.wrap ((t:Int) - 1))) 0).toInt==11)]) ?_ ?_).trans ?_
  ·intro k hk _
   simp only [aA,aQ,bJ,toInt_int,aE,e_ (show f+k<t by omega),aB (show f+k<I.length by omega),cond_true,au];have e3:IntKind.i64.wrap (((f+k:Nat):Int)+1)=((f+(k+1):Nat):Int):=wrap_i64 (n:=((f+k:Nat):Int)+1) (by omega) (by omega);rw [e3];have hj:(aj (rd I (f+k:Nat)) 0).toInt=5∨(aj (rd I (f+k:Nat)) 0).toInt=6→bp (IntKind.i64.wrap ((aj (rd I (f+k:Nat)) 1).toInt - f)) (bfK I f (t - f)).length=true∧(rd (bfK I f (t - f)) (IntKind.i64.wrap ((aj (rd I (f+k:Nat)) 1).toInt - f))).toInt=dp I f ((aj (rd I (f+k:Nat)) 1).toInt - f).toNat:=by
    intro ho;have hr:=LK (ahY k hk) ho;rw [wrap_i64 (by omega) (by omega)];have e4:(aj (rd I (f+k:Nat)) 1).toInt - f=((((aj (rd I (f+k:Nat)) 1).toInt - f).toNat:Nat):Int):=by omega
    have e5:((aj (rd I (f+k:Nat)) 1).toInt - f).toNat<t - f:=by omega
    generalize ((aj (rd I (f+k:Nat)) 1).toInt - f).toNat=a at*;rw [e4];exact ⟨aB (by simpa [bfK] using e5),by simp [rd,bfK,e5]⟩
   simp only [WJ];by_cases h5:(aj (rd I (f+k:Nat)) 0).toInt=5
   ·rw [(hj (.inl h5)).1,(hj (.inl h5)).2]; simp only [h5]; generalize (dp I f _ != 0)=b; cases b<;>rfl
   by_cases h6:(aj (rd I (f+k:Nat)) 0).toInt=6
   ·rw [(hj (.inr h6)).1,(hj (.inr h6)).2]; simp only [h6]; generalize (dp I f _ != 0)=b; cases b<;>rfl
   simp only [beq_eq_false_iff_ne.2 h5,beq_eq_false_iff_ne.2 h6]; rfl
  ·intro _
   simp only [aA,toInt_int,iQ (show ¬ f+(t - f)<t by omega),cond_false];have:bp (IntKind.i64.wrap ((t:Int) - 1)) I.length=true:=by
    rw [wrap_i64 (by omega) (by omega)]; simp [bp]; omega
   rw [this]; rfl
  ·cases aZ (WJ I f) _ _<;>rfl
 ·rw [yU]; unfold Zh
  cases aZ (NN E I sl f t) _ _<;>cases aZ (ZI I f) _ _<;>cases aZ (WJ I f) _ _<;>rfl
end
end Go.Sy.V
namespace Go.Sy.V
open PV Go.Sy
noncomputable section
def IT (E I:List PV) (i:Nat):Bool:= !((((i:Int)==0)&&(sO E i != 0))||(aK (sO E i) 0||(cI (Cm E I i) (sO E i)||(bq (Cm E I i) (I.length:Int)||(aK (C7 E i) 0||bq (C7 E i) 32)))))
def Wn (E I:List PV) (i:Nat):Bool:=Zh E I (C7 E i) (sO E i).toNat (Cm E I i).toNat
def QX (E:List PV) (i:Nat):Bool:= !(E.take i).any fun x=>aM (aj x 0).toStr (aj (rd E i) 0).toStr
def QY (E I:List PV):Bool:=aK (E.length:Int) 1||(bq (E.length:Int) 8||(aK (I.length:Int) 1||bq (I.length:Int) 2048))
def qw (E I:List PV):Int:=cond (QY E I) 2 (cond (E.all fun e=>eN (aj e 0).toStr) (cond (aZ (QX E) E.length 0) (cond (aZ (E9 E I) E.length 0&&aZ (Wn E I) E.length 0) 0 20) 7) 6)
theorem Gy {E I:List PV} {i:Nat} (h:IT E I i=true):0≤sO E i∧sO E i<Cm E I i∧Cm E I i≤I.length∧0≤C7 E i∧C7 E i≤32∧(i=0→sO E i=0):=by
 simp only [IT,Bool.not_eq_true',Bool.or_eq_false_iff,Bool.and_eq_false_iff,aK,cI,bq,decide_eq_false_iff_not,bne_eq_false_iff_eq,beq_eq_false_iff_ne] at h;obtain ⟨h0,h1,h2,h3,h4,h5⟩:=h;refine ⟨by omega,by omega,by omega,by omega,by omega, ?_⟩;intro e; rcases h0 with h0|h0
 ·subst e; exact absurd rfl h0
 ·exact h0
theorem aaP (E I:List PV) (i:Nat):E9 E I i=(IT E I i&&Cn E I i):=rfl
theorem aaQ (L:List PV) (p:PV→Bool):L.any p= !aZ (fun j=> !p (rd L j)) L.length 0:=by
 have:=IG L p L.length (by omega);rw [List.take_length] at this;rw [this,Bool.not_not]
theorem zu (c:PV) (w:Wf c) (hE:(aj c 0).toList.length≤100) (hI:(aj c 1).toList.length≤3000):gE [c]=some [.int (qw (aj c 0).toList (aj c 1).toList)]:=by
 have hwE:=fun q hq=>(w.aj 0).mem (q:=q) hq
 have hwI:=fun q hq=>(w.aj 1).mem (q:=q) hq
 have hS:=Kb (aj c 0).toList (aj c 1).toList (by omega) (by omega) c rfl rfl;simp only [gE,aA,hS,an];generalize (aj c 0).toList=E at*;generalize (aj c 1).toList=I at*;rw [aY E (le_max (by omega)) [] _ _ [.int 6] (fun e=>eN (aj e 0).toStr)]
 rotate_left
 ·intro i hi hm
  simp only [aA,toInt_int,aB hi,au,jQ _ ((hwE _ hm).aj 0).size,an,ak];cases eN _<;>rfl
 rw [bO E.length (le_max (by omega)) [] _ _ (fun i=>cond (QX E i) none (some [.int 7]))]
 rotate_left
 ·intro i hi
  have hs:sub E 0 (i:Int)=E.take i:=by simp [sub]
  simp only [aA,toInt_int,aB hi,au,hs,Int.toNat_natCast,aB (show i<E.length+1 by omega),show bp 0 (i+1)=true from aB (i:=0) (by omega),Bool.and_self];rw [dx (E.take i) (le_max (by simp; omega)) _ (fun x=>aM (aj x 0).toStr (aj (rd E i) 0).toStr)]
  ·simp only [aA,toInt_int,show bE 0 0=true from rfl,show bE (-1) 0=false from rfl,cond_true,cond_false,QX]
   cases (E.take i).any _<;>rfl
  ·intro j hj hm
   simp only [aA,toInt_int,aB hj,au];cases aM _ _<;>rfl
  ·intro j; simp [bE]
 rw [dS];have hlim: ∀ x:Option (List PV),(aq (cond (aK (E.length:Int) 1) (some (.inl [PV.bool true])) (cond (bq (E.length:Int) 8) (some (.inl [.bool true])) (cond (aK (I.length:Int) 1) (some (.inl [.bool true])) (some (.inl [.bool (bq (I.length:Int) 2048)]))))) fun b9=>cond ((nth b9 0).toBool) (some [PV.int 2]) x)=cond (QY E I) (some [.int 2]) x:=by
  intro x; unfold QY;cases aK (E.length:Int) 1<;>cases bq (E.length:Int) 8<;>cases aK (I.length:Int) 1<;>cases bq (I.length:Int) 2048<;>rfl
 rw [hlim];unfold qw;cases QY E I with
 |true=>rfl
 |false=>
 cases E.all (fun e=>eN (aj e 0).toStr) with
 |false=>rfl
 |true=>
 cases aZ (QX E) E.length 0 with
 |false=>rfl
 |true=>
 simp only [cond_true,cond_false];cases hent:aZ (E9 E I) E.length 0 with
 |false=>rfl
 |true=>
 simp only [cond_true,aA,aQ,ak,aE,Bool.not_true,cond_false,Bool.true_and];have Zi:=dy.1 hent;have hlen:((List.range E.length).map (NM E I)).length=E.length:=by simp
 have hrd: ∀ i,i<E.length→rd ((List.range E.length).map (NM E I)) i=NM E I i:=by
  intro i hi; simp [rd,hi]
 rw [hlen,bO E.length (le_max (by omega)) [] _ _ (fun i=>cond (Wn E I i) none (some [.int 20]))]
 ·rw [dS]; cases aZ _ _ _<;>rfl
 ·intro i hi
  have hx:=Gy (E:=E) (I:=I) (i:=i) (by have:=Zi i (by omega) (by omega); rw [aaP,Bool.and_eq_true] at this; exact this.1);obtain ⟨f,hf⟩: ∃ f:Nat,sO E i=f:=⟨(sO E i).toNat,by omega⟩;obtain ⟨t,ht⟩: ∃ t:Nat,Cm E I i=t:=⟨(Cm E I i).toNat,by omega⟩;simp only [aA,toInt_int,aB hi,au,hrd i hi];simp only [NM,cU,bJ,ga,toInt_int,hf,ht,Int.toNat_natCast,aB (show f<t+1 by omega),aB (show t<I.length+1 by omega),Bool.and_self,au];have hsl:(sub I (f:Int) (t:Int)).length=t - f:=by simp [sub]; omega
  have hsr: ∀ j,j<t - f→rd (sub I (f:Int) (t:Int)) j=rd I (f+j:Nat):=by
   intro j hj; simp [rd,sub,List.getElem?_drop,List.getElem?_take,show f+j<t by omega,show ((f:Int)+(j:Int)).toNat=f+j by omega]
  rw [dx (sub I (f:Int) (t:Int)) (le_max (by rw [hsl]; omega)) _ (fun x=> !E8 E (C7 E i) f t x)]
  ·rw [aaQ,hsl]
   have e1:aZ (fun j=> !!E8 E (C7 E i) f t (rd (sub I (f:Int) (t:Int)) j)) (t - f) 0=aZ (NN E I (C7 E i) f t) (t - f) 0:=by
    apply E2;intro j _ hj;rw [hsr j (by omega),Bool.not_not]; rfl
   rw [e1];simp only [aA,toInt_int,show bE 0 0=true from rfl,show bE (-1) 0=false from rfl,cond_true,cond_false,Wn,Zh,hf,ht,Int.toNat_natCast];cases hfm:aZ (NN E I (C7 E i) f t) (t - f) 0 with
   |false=>rfl
   |true=>
    rw [Kc E I (C7 E i) f t (by omega) (by omega) (by omega) (fun k hk=>dy.1 hfm k (by omega) (by omega))];simp only [an,aA,ak,Bool.not_true,cond_false,Bool.true_and,aR];generalize (_&&_)=b;cases b<;>rfl
  ·intro j hj hm
   rw [hsl] at hj;simp only [aA,toInt_int,aB (show j<(sub I (f:Int) (t:Int)).length by omega),au,hsr j hj];rw [Wl E I f t (C7 E i) _ (hwI _ (m_ (by omega))) (le_max (by omega))];simp only [an,aA,ak];cases E8 _ _ _ _ _<;>rfl
  ·intro j; simp [bE]
def wM (E I:List PV) (i:Nat):Bool:= !((((i:Int)==0)&&(sO E i != 0))||((bq (i:Int) 0&&cI (sO E i) (sO E (i - 1)))||(bE (sO E i) (I.length:Int)||(aK (C7 E i) 0||bq (C7 E i) 32))))
theorem aaR (E I:List PV):aZ (wM E I) E.length 0=aZ (IT E I) E.length 0:=by
 rw [Bool.eq_iff_iff,dy,dy];constructor
 ·intro h
  have hr: ∀ i,i<E.length→(i=0→sO E i=0)∧(0<i→sO E (i - 1)<sO E i)∧sO E i<I.length∧0≤C7 E i∧C7 E i≤32:=by
   intro i hi;have:=h i (by omega) (by omega);simp only [wM,Bool.not_eq_true',Bool.or_eq_false_iff,Bool.and_eq_false_iff,aK,cI,bq,bE,decide_eq_false_iff_not,bne_eq_false_iff_eq,beq_eq_false_iff_ne] at this;obtain ⟨h0,h1,h2,h3,h4⟩:=this;refine ⟨?_, ?_,by omega,by omega,by omega⟩
   ·intro e; rcases h0 with h0|h0
    ·subst e; exact absurd rfl h0
    ·exact h0
   ·intro e; rcases h1 with h1|h1<;>omega
  have hpos: ∀ i,i<E.length→0≤sO E i:=by
   intro i;induction i with
   |zero=>intro hi; have:=(hr 0 hi).1 rfl; omega
   |succ i ih=>intro hi; have h1:=ih (by omega); have h2:=(hr (i+1) hi).2.1 (by omega); simp only [Nat.add_sub_cancel] at h2; omega
  intro i _ hi;have hi:i<E.length:=by omega
  have h1:=hr i hi;have h2:=hpos i hi;have h3:sO E i<Cm E I i∧Cm E I i≤I.length:=by
   unfold Cm;split
   ·rename_i hlt
    have:=hr (i+1) hlt;have h4:=this.2.1 (by omega);simp only [Nat.add_sub_cancel] at h4;omega
   ·omega
  simp only [IT,Bool.not_eq_true',Bool.or_eq_false_iff,Bool.and_eq_false_iff,aK,cI,bq,decide_eq_false_iff_not,bne_eq_false_iff_eq,beq_eq_false_iff_ne];refine ⟨?_,by omega,by omega,by omega,by omega,by omega⟩;by_cases e:i=0
  ·exact .inr (h1.1 e)
  ·exact .inl (by omega)
 ·intro h
  have hx: ∀ i,i<E.length→_:=fun i hi=>Gy (h i (by omega) (by omega))
  intro i _ hi;have hi:i<E.length:=by omega
  have h1:=hx i hi;simp only [wM,Bool.not_eq_true',Bool.or_eq_false_iff,Bool.and_eq_false_iff,aK,cI,bq,bE,decide_eq_false_iff_not,bne_eq_false_iff_eq,beq_eq_false_iff_ne];refine ⟨?_, ?_,by omega,by omega,by omega⟩
  ·by_cases e:i=0
   ·exact .inr (h1.2.2.2.2.2 e)
   ·exact .inl (by omega)
  ·by_cases e:i=0
   ·exact .inl (by omega)
   ·have h2:=hx (i - 1) (by omega)
    have h3:Cm E I (i - 1)=sO E i:=by
     unfold Cm;rw [if_pos (by omega),show i - 1+1=i by omega]
    exact .inr (by omega)
theorem Co (c:PV) (w:Wf c) (hE:(aj c 0).toList.length≤100) (hI:(aj c 1).toList.length≤3000):iD [c]=some [.int (qw (aj c 0).toList (aj c 1).toList)]:=by
 have hwE:=fun q hq=>(w.aj 0).mem (q:=q) hq
 have hwI:=fun q hq=>(w.aj 1).mem (q:=q) hq
 have adh:=fun sl f t a b=>QW c (aj c 0).toList (aj c 1).toList sl f t rfl rfl a b hI (by omega) hwI
 simp only [iD,aA];generalize (aj c 0).toList=E at*;generalize (aj c 1).toList=I at*;rw [aY E (le_max (by omega)) [] _ _ [.int 6] (fun e=>eN (aj e 0).toStr)]
 rotate_left
 ·intro i hi hm
  simp only [aA,toInt_int,aB hi,au,xI _ ((hwE _ hm).aj 0).size,an,ak];cases eN _<;>rfl
 rw [bO E.length (le_max (by omega)) [] _ _ (fun i=>cond (QX E i) none (some [.int 7]))]
 rotate_left
 ·intro i hi
  simp only [aA,toInt_int];rw [bO i (le_max (by omega)) [] _ _ (fun k=>cond (!aM (aj (rd E k) 0).toStr (aj (rd E i) 0).toStr) none (some (.inr [.int 7])))]
  ·rw [dS,IG E (fun x=>aM (aj x 0).toStr (aj (rd E i) 0).toStr) i (by omega)]
   simp only [QX];cases (E.take i).any _<;>rfl
  ·intro k hk
   simp only [aA,toInt_int,aB hi,aB (show k<E.length by omega),au];cases aM _ _<;>rfl
 rw [dS];rw [bO E.length (le_max (by omega)) [] _ _ (fun i=>cond (wM E I i) none (some [.int 20]))]
 rotate_left
 ·intro i hi
  simp only [aA,toInt_int,aB hi,au];rw [show (aj (rd E i) 1).toInt=sO E i from rfl,show (aj (rd E i) 2).toInt=C7 E i from rfl];simp only [wM];by_cases h0:i=0
  ·subst h0
   simp only [show (((0:Nat):Int)==0)=true from rfl,show bq ((0:Nat):Int) 0=false from rfl];cases (sO E 0 != 0)<;>cases bE (sO E 0) (I.length:Int)<;>cases aK (C7 E 0) 0<;>cases bq (C7 E 0) 32<;>rfl
  ·have hz:((i:Int)==0)=false:=beq_eq_false_iff_ne.2 (by omega)
   have hg:bq (i:Int) 0=true:=by simp [bq]; omega
   rw [eV (by omega) hi (le_max (by omega)),aB (show i - 1<E.length by omega)];rw [show (aj (rd E (i - 1:Nat)) 1).toInt=sO E (i - 1) from rfl];simp only [hz,hg];cases cI (sO E i) (sO E (i - 1))<;>cases bE (sO E i) (I.length:Int)<;>cases aK (C7 E i) 0<;>cases bq (C7 E i) 32<;>rfl
 rw [dS,aaR];have hlim: ∀ x:Option (List PV),(aq (cond (aK (E.length:Int) 1) (some (.inl [PV.bool true])) (cond (bq (E.length:Int) 8) (some (.inl [.bool true])) (cond (aK (I.length:Int) 1) (some (.inl [.bool true])) (some (.inl [.bool (bq (I.length:Int) 2048)]))))) fun b9=>cond ((nth b9 0).toBool) (some [PV.int 2]) x)=cond (QY E I) (some [.int 2]) x:=by
  intro x; unfold QY;cases aK (E.length:Int) 1<;>cases bq (E.length:Int) 8<;>cases aK (I.length:Int) 1<;>cases bq (I.length:Int) 2048<;>rfl
 rw [hlim];have hsplit:aZ (E9 E I) E.length 0=(aZ (IT E I) E.length 0&&aZ (Cn E I) E.length 0):=by
  rw [← yU]; rfl
 unfold qw;rw [hsplit];cases QY E I with
 |true=>rfl
 |false=>
 cases E.all (fun e=>eN (aj e 0).toStr) with
 |false=>rfl
 |true=>
 cases aZ (QX E) E.length 0 with
 |false=>rfl
 |true=>
 simp only [cond_true,cond_false];cases hent:aZ (IT E I) E.length 0 with
 |false=>rfl
 |true=>
 simp only [cond_true,Bool.true_and];have Zi:=dy.1 hent;rw [bO E.length (le_max (by omega)) [] _ _ (fun i=>cond (Wn E I i&&Cn E I i) none (some [.int 20]))]
 ·rw [dS,yU]; cases aZ (Wn E I) _ _<;>cases aZ (Cn E I) _ _<;>rfl
 ·intro i hi
  have hx:=Gy (Zi i (by omega) (by omega));obtain ⟨f,hf⟩: ∃ f:Nat,sO E i=f:=⟨(sO E i).toNat,by omega⟩;obtain ⟨t,ht⟩: ∃ t:Nat,Cm E I i=t:=⟨(Cm E I i).toNat,by omega⟩;simp only [aA,toInt_int,aB hi,au,toK E I i hi (by omega)];rw [show (aj (rd E i) 1).toInt=sO E i from rfl,show (aj (rd E i) 2).toInt=C7 E i from rfl,hf,ht,adh _ f t (by omega) (by omega)];simp only [an,aA,ak,Wn,Cn,hf,ht,Int.toNat_natCast];cases Zh _ _ _ _ _<;>cases (_==(11:Int))<;>rfl
end
end Go.Sy.V
namespace Go.Sy.V
open PV Go.Sy
noncomputable section
def eK (E:List PV) (a:Int):Nat→PV
 |0=> .zero
 |i+1=>cond (cI (aj (rd E i) 1).toInt a) (rd E i) (eK E a i)
def eSt (E:List PV) (a:Int) (i:Nat):List PV:=[.int i, .str (aj (eK E a i) 0).toStr, .int (aj (eK E a i) 1).toInt, .int (aj (eK E a i) 2).toInt]
def QZ (I:List PV) (f:Nat):Nat→Int
 |0=>0
 |k+1=>IntKind.i64.wrap (QZ I f k+chg (rd I (f+k:Nat)))
theorem afZ {E I:List PV} {a:Int} (h:aZ (IT E I) E.length 0=true) (ha:0≤a): ∀ i,i≤E.length→0≤(aj (eK E a i) 1).toInt∧(aj (eK E a i) 1).toInt≤a:=by
 intro i;induction i with
 |zero=>intro _; exact ⟨Int.le_refl _,ha⟩
 |succ i ih=>
  intro hi;simp only [eK];cases hl:cI (aj (rd E i) 1).toInt a with
  |false=>exact ih (by omega)
  |true=>
   have:=Gy (dy.1 h i (by omega) (by omega));simp only [cI,decide_eq_true_eq] at hl;exact ⟨this.1,hl⟩
def wtB (t:PV):Bool:=((aj t 0).toInt==1&&(aj t 2).toInt==0)||((aj t 0).toInt==2&&(bE (aj t 2).toInt 1&&cI (aj t 2).toInt 1048576))
def Zj (E I:List PV) (t:PV):Bool:=(((aj t 3).toList.length:Int)==(aj (eK E (aj t 1).toInt E.length) 2).toInt)&&(((aj t 4).toList.length:Int)==QZ I (aj (eK E (aj t 1).toInt E.length) 1).toInt.toNat ((aj t 1).toInt.toNat - (aj (eK E (aj t 1).toInt E.length) 1).toInt.toNat))
def vmB (E I:List PV) (t:PV):Bool:=cond (qw E I != 0||(aK (aj t 1).toInt 0||bE (aj t 1).toInt (I.length:Int))) false
 (cond ((aj t 0).toInt==3||(aj t 0).toInt==4) ((aj t 2).toInt==0&&((((aj t 3).toList.length:Int)==0)&&(((aj t 4).toList.length:Int)==0))) (wtB t&&Zj E I t))
theorem IU {E I:List PV} (h:qw E I=0):aZ (IT E I) E.length 0=true:=by
 have hsplit:aZ (E9 E I) E.length 0=(aZ (IT E I) E.length 0&&aZ (Cn E I) E.length 0):=by
  rw [← yU]; rfl
 unfold qw at h;rw [hsplit] at h;cases hx:aZ (IT E I) E.length 0 with
 |true=>rfl
 |false=>
  rw [hx] at h
  revert h
  cases QY E I<;>cases (E.all fun e=>eN (aj e 0).toStr)<;>cases aZ (QX E) E.length 0<;>simp
theorem Zk (c t:PV) (w:Wf c) (wt:Wf t) (hE:(aj c 0).toList.length≤100) (hI:(aj c 1).toList.length≤3000):vo [c,t]=some [.bool (vmB (aj c 0).toList (aj c 1).toList t)]:=by
 simp only [vo,aA,aQ,zu c w hE hI,an,toInt_int,vmB];generalize hEe:(aj c 0).toList=E at*;generalize hIe:(aj c 1).toList=I at*;cases hv:(qw E I != 0) with
 |true=>rfl
 |false=>
 have Yd:qw E I=0:=by simpa using hv
 have hx:=IU Yd;generalize ha:(aj t 1).toInt=a at*;cases h1:aK a 0 with
 |true=>rfl
 |false=>
 cases h2:bE a (I.length:Int) with
 |true=>rfl
 |false=>
 simp only [cond_false,aR,aA,ak,Bool.false_or];simp only [aK,decide_eq_false_iff_not] at h1;simp only [bE,decide_eq_false_iff_not] at h2;obtain ⟨b,hb⟩: ∃ b:Nat,a=b:=⟨a.toNat,by omega⟩;subst hb;have hr:=afZ hx (show (0:Int)≤(b:Int) by omega) E.length (by omega);obtain ⟨f,hf⟩: ∃ f:Nat,(aj (eK E b E.length) 1).toInt=f:=⟨(aj (eK E b E.length) 1).toInt.toNat,by omega⟩;have hsl:(sub I (f:Int) (b:Int)).length=b - f:=by simp [sub]; omega
 have hsr: ∀ j,j<b - f→rd (sub I (f:Int) (b:Int)) j=rd I (f+j:Nat):=by
  intro j hj; simp [rd,sub,List.getElem?_drop,List.getElem?_take,show f+j<b by omega,show ((f:Int)+(j:Int)).toNat=f+j by omega]
 have hsum: ∀ X:Int→Option (List PV),iter (R:=List PV) (fun ug=>cond (aK ((nth ug 1).toInt) (((sub I (f:Int) (b:Int)).length:Int))) (aC (bp (nth ug 1).toInt (sub I (f:Int) (b:Int)).length) (andThen (og [rd (sub I (f:Int) (b:Int)) (nth ug 1).toInt]) fun y5=>some (.inl [.int (IntKind.i64.wrap ((nth ug 0).toInt+(nth y5 0).toInt)), .int (IntKind.i64.wrap ((nth ug 1).toInt+1))]))) (ay (X (nth ug 0).toInt))) [.int 0, .int 0]=X (QZ I f (b - f)):=by
  intro X;refine (mq (R:=List PV) _ (b - f) (fun k=>[.int (QZ I f k), .int (k:Nat)]) (fun _=>true) [] (X (QZ I f (b - f))) ?_ ?_).trans ?_
  ·intro k hk _
   simp only [aA,aQ,toInt_int,e_ (show k<(sub I (f:Int) (b:Int)).length by omega),aB (show k<(sub I (f:Int) (b:Int)).length by omega),cond_true,au,hsr k hk,Wj,an];rw [show IntKind.i64.wrap ((k:Int)+1)=((k+1:Nat):Int) from wrap_i64 (by omega) (by omega)]; rfl
  ·intro _
   simp only [aA,aQ,toInt_int,iQ (show ¬ b - f<(sub I (f:Int) (b:Int)).length by omega),cond_false]
  ·have:aZ (fun _=>true) (b - f) 0=true:=dy.2 (fun _ _ _=>rfl)
   rw [this]; rfl
 have hent: ∀ X:List PV→Option (List PV),iter (R:=List PV) (fun oZ=>cond (aK ((nth oZ 0).toInt) ((E.length:Int))) (aC (bp (nth oZ 0).toInt E.length) (aq (cond (cI ((aj (rd E (nth oZ 0).toInt) 1).toInt) (b:Int)) (some (.inl [.str (aj (rd E (nth oZ 0).toInt) 0).toStr, .int (aj (rd E (nth oZ 0).toInt) 1).toInt, .int (aj (rd E (nth oZ 0).toInt) 2).toInt])) (some (.inl [.str (nth oZ 1).toStr, .int (nth oZ 2).toInt, .int (nth oZ 3).toInt]))) fun AS=>some (.inl [.int (IntKind.i64.wrap ((nth oZ 0).toInt+1)), .str (nth AS 0).toStr, .int (nth AS 1).toInt, .int (nth AS 2).toInt]))) (ay (X oZ))) [.int 0, .str (ByteArray.mk #[]), .int 0, .int 0]=X (eSt E b E.length):=by
  intro X;refine (mq (R:=List PV) _ E.length (eSt E b) (fun _=>true) [] (X (eSt E b E.length)) ?_ ?_).trans ?_
  ·intro k hk _
   simp only [eSt,aA,aQ,bJ,ga,toInt_int,aS,e_ hk,aB hk,cond_true,au,eK];rw [show IntKind.i64.wrap ((k:Int)+1)=((k+1:Nat):Int) from wrap_i64 (by omega) (by omega)];cases cI _ (b:Int)<;>rfl
  ·intro _
   simp only [eSt,aA,toInt_int,iQ (Nat.lt_irrefl _),cond_false]
  ·have:aZ (fun _=>true) E.length 0=true:=dy.2 (fun _ _ _=>rfl)
   rw [this]; rfl
 rw [hent];simp only [eSt,bJ,ga,toInt_int,hf,Int.toNat_natCast,aB (show f<b+1 by omega),aB (show b<I.length+1 by omega),Bool.and_self,au];rw [hsum (fun d=>aq (cond ((aj t 0).toInt==1) (cond ((aj t 2).toInt==0) (some (.inl [.bool true])) (cond ((aj t 0).toInt==2) (cond (bE ((aj t 2).toInt) (1)) (some (.inl [.bool (cI ((aj t 2).toInt) (1048576))])) (some (.inl [.bool false]))) (some (.inl [.bool false])))) (cond ((aj t 0).toInt==2) (cond (bE ((aj t 2).toInt) (1)) (some (.inl [.bool (cI ((aj t 2).toInt) (1048576))])) (some (.inl [.bool false]))) (some (.inl [.bool false])))) fun mT=>aq (cond ((nth mT 0).toBool) (cond (((aj t 3).toList.length:Int)==(aj (eK E b E.length) 2).toInt) (some (.inl [.bool (((aj t 4).toList.length:Int)==d)])) (some (.inl [.bool false]))) (some (.inl [.bool false]))) fun lN=>some [.bool (nth lN 0).toBool])];simp only [wtB,Zj,ha,hf,Int.toNat_natCast];generalize ((aj t 0).toInt==1)=s1;generalize ((aj t 0).toInt==2)=s2;generalize ((aj t 0).toInt==3)=s3;generalize ((aj t 0).toInt==4)=s4;generalize ((aj t 2).toInt==0)=w0;generalize bE (aj t 2).toInt 1=w1;generalize cI (aj t 2).toInt 1048576=w2;generalize (((aj t 3).toList.length:Int)==0)=l0;generalize (((aj t 4).toList.length:Int)==0)=l1;generalize (((aj t 3).toList.length:Int)==_)=l2;generalize (((aj t 4).toList.length:Int)==_)=l3;cases s3 with
 |true=>cases w0<;>cases l0<;>cases l1<;>rfl
 |false=>
 cases s4 with
 |true=>cases w0<;>cases l0<;>cases l1<;>rfl
 |false=>cases s1<;>cases s2<;>cases w0<;>cases w1<;>cases w2<;>cases l2<;>cases l3<;>rfl
theorem Wo (c:PV) (a:Int) (hE:(aj c 0).toList.length≤100):oc [c, .int a]=some [.agg [.str (aj (eK (aj c 0).toList a (aj c 0).toList.length) 0).toStr, .int (aj (eK (aj c 0).toList a (aj c 0).toList.length) 1).toInt, .int (aj (eK (aj c 0).toList a (aj c 0).toList.length) 2).toInt]]:=by
 simp only [oc,aA,aQ,toInt_int];generalize (aj c 0).toList=E at*;refine (mq (R:=List PV) _ E.length (eSt E a) (fun _=>true) [] (some [.agg [.str (aj (eK E a E.length) 0).toStr, .int (aj (eK E a E.length) 1).toInt, .int (aj (eK E a E.length) 2).toInt]]) ?_ ?_).trans ?_
 ·intro k hk _
  simp only [eSt,aA,aQ,bJ,ga,toInt_int,aS,e_ hk,aB hk,cond_true,au,eK];rw [show IntKind.i64.wrap ((k:Int)+1)=((k+1:Nat):Int) from wrap_i64 (by omega) (by omega)];cases cI _ a<;>rfl
 ·intro _
  simp only [eSt,aA,aQ,bJ,ga,toInt_int,aS,iQ (Nat.lt_irrefl _),cond_false]
 ·have:aZ (fun _=>true) E.length 0=true:=dy.2 (fun _ _ _=>rfl)
  rw [this]; rfl
theorem Wp (c t:PV) (w:Wf c) (wt:Wf t) (hE:(aj c 0).toList.length≤100) (hI:(aj c 1).toList.length≤3000):rP [c,t]=some [.bool (vmB (aj c 0).toList (aj c 1).toList t)]:=by
 simp only [rP,xG,aA,aQ,Co c w hE hI,an,toInt_int,vmB,Wo c _ hE];generalize hEe:(aj c 0).toList=E at*;generalize hIe:(aj c 1).toList=I at*;cases hv:(qw E I != 0) with
 |true=>rfl
 |false=>
 have Yd:qw E I=0:=by simpa using hv
 have hx:=IU Yd;generalize ha:(aj t 1).toInt=a at*;cases h1:aK a 0 with
 |true=>rfl
 |false=>
 cases h2:bE a (I.length:Int) with
 |true=>rfl
 |false=>
 simp only [cond_false,aR,aA,ak,Bool.false_or];simp only [aK,decide_eq_false_iff_not] at h1;simp only [bE,decide_eq_false_iff_not] at h2;obtain ⟨b,hb⟩: ∃ b:Nat,a=b:=⟨a.toNat,by omega⟩;subst hb;have hr:=afZ hx (show (0:Int)≤(b:Int) by omega) E.length (by omega);obtain ⟨f,hf⟩: ∃ f:Nat,(aj (eK E b E.length) 1).toInt=f:=⟨(aj (eK E b E.length) 1).toInt.toNat,by omega⟩;have hsum:iter (R:=List PV) (fun iJ=>cond (aK ((nth iJ 1).toInt) (b:Int)) (aC (bp (nth iJ 1).toInt I.length) (andThen (l_ [rd I (nth iJ 1).toInt]) fun r3=>some (.inl [.int (IntKind.i64.wrap ((nth iJ 0).toInt+(nth r3 0).toInt)), .int (IntKind.i64.wrap ((nth iJ 1).toInt+1))]))) (ay (some [.int (nth iJ 0).toInt]))) [.int 0, .int (f:Int)]=some [.int (QZ I f (b - f))]:=by
  refine (mq (R:=List PV) _ (b - f) (fun k=>[.int (QZ I f k), .int ((f+k:Nat):Int)]) (fun _=>true) [] (some [.int (QZ I f (b - f))]) ?_ ?_).trans ?_
  ·intro k hk _
   simp only [aA,aQ,toInt_int,e_ (show f+k<b by omega),aB (show f+k<I.length by omega),cond_true,au,S0,an];rw [show IntKind.i64.wrap (((f+k:Nat):Int)+1)=((f+(k+1):Nat):Int) from wrap_i64 (n:=((f+k:Nat):Int)+1) (by omega) (by omega)]; rfl
  ·intro _
   simp only [aA,aQ,toInt_int,iQ (show ¬ f+(b - f)<b by omega),cond_false]
  ·have:aZ (fun _=>true) (b - f) 0=true:=dy.2 (fun _ _ _=>rfl)
   rw [this]; rfl
 simp only [cU,aQ,bJ,toInt_int,hf,hsum,an,aA];simp only [wtB,Zj,ha,hf,Int.toNat_natCast];generalize (((aj t 3).toList.length:Int)==0)=l0;generalize (((aj t 4).toList.length:Int)==0)=l1;generalize (((aj t 3).toList.length:Int)==_)=l2;generalize (((aj t 4).toList.length:Int)==_)=l3;generalize ((aj t 2).toInt==0)=w0;generalize bE (aj t 2).toInt 1=w1;generalize cI (aj t 2).toInt 1048576=w2;generalize (aj t 0).toInt=s;by_cases e1:s=1; · subst e1; cases w0<;>cases l2<;>cases l3<;>rfl
 by_cases e2:s=2; · subst e2; cases w1<;>cases w2<;>cases l2<;>cases l3<;>rfl
 by_cases e3:s=3; · subst e3; cases w0<;>cases l0<;>cases l1<;>cases l2<;>cases l3<;>rfl
 by_cases e4:s=4; · subst e4; cases w0<;>cases l0<;>cases l1<;>cases l2<;>cases l3<;>rfl
 simp only [beq_eq_false_iff_ne.2 e1,beq_eq_false_iff_ne.2 e2,beq_eq_false_iff_ne.2 e3,beq_eq_false_iff_ne.2 e4];cases l2<;>cases l3<;>rfl
end
end Go.Sy.V
namespace Go.Sy.V
open PV Go.Sy
noncomputable section
structure Small (g:PV):Prop where
 r:oA (aP g)
 u:(aj g 12).toList.length≤100
 s: ∀ s∈(aj g 15).toList,(aj s 1).toList.length≤20∧(aj s 2).toList.length≤3000
def Zl (s t:PV):Bool:=vmB (aj s 1).toList (aj s 2).toList t&&((aj t 0).toInt==1||(aj t 0).toInt==2)
def Cp (g:PV) (i:Nat):Option (List PV):=
 cond (!SN g (aj (rd (aj g 15).toList i) 0).toInt) (some [.int 8])
 (cond (bq (i:Int) 0&&cI (aj (rd (aj g 15).toList i) 0).toInt (aj (rd (aj g 15).toList (i - 1:Nat)) 0).toInt) (some [.int 13])
 (cond (qw (aj (rd (aj g 15).toList i) 1).toList (aj (rd (aj g 15).toList i) 2).toList != 0) (some [.int (qw (aj (rd (aj g 15).toList i) 1).toList (aj (rd (aj g 15).toList i) 2).toList)])
 (cond (bq ((aj (rd (aj g 15).toList i) 3).toList.length:Int) 8) (some [.int 2])
 (cond ((aj (rd (aj g 15).toList i) 3).toList.all (Zl (rd (aj g 15).toList i))) none (some [.int 23])))))
def tT (g:PV):Option (List PV):=scan (fun i=>(Cp g i).map some) (some [.int 0]) (aj g 15).toList.length 0
theorem Zm (g:PV) (w:Wf g) (sm:Small g) (i:Nat) (hi:i<(aj g 15).toList.length):
  (aj (aJ (rd (aj g 15).toList i) 1 2) 0)=aj (rd (aj g 15).toList i) 1∧(aj (aJ (rd (aj g 15).toList i) 1 2) 1)=aj (rd (aj g 15).toList i) 2∧Wf (aJ (rd (aj g 15).toList i) 1 2)∧(aj (aJ (rd (aj g 15).toList i) 1 2) 0).toList.length≤100∧(aj (aJ (rd (aj g 15).toList i) 1 2) 1).toList.length≤3000:=by
 have h:=sm.s _ (m_ hi);have e0:aj (aJ (rd (aj g 15).toList i) 1 2) 0=aj (rd (aj g 15).toList i) 1:=fB _ 1 2 0 (by omega);have e1:aj (aJ (rd (aj g 15).toList i) 1 2) 1=aj (rd (aj g 15).toList i) 2:=fB _ 1 2 1 (by omega);exact ⟨e0,e1,((w.aj 15).rd i).aJ 1 2,by rw [e0]; omega,by rw [e1]; omega⟩
theorem Ke (g:PV) (w:Wf g) (sm:Small g):jD [g]=tT g:=by
 simp only [jD,aA,tT];rw [bO _ (w.aj 15).len [] _ _ (Cp g)];intro i hi;obtain ⟨e0,e1,ws,l0,l1⟩:=Zm g w sm i hi;simp only [aA,toInt_int,aB hi,au,vw g _ w,zu _ ws l0 l1,an,aQ,ak];rw [aY _ (((w.aj 15).rd i).aj 3).len [] _ _ (.inr [.int 23]) (Zl (rd (aj g 15).toList i))]
 ·simp only [e0,e1,Cp]
  have hz:aC (bp (IntKind.i64.wrap ((i:Int) - 1)) (aj g 15).toList.length) (some (.inl [PV.bool (cI (aj (rd (aj g 15).toList i) 0).toInt (aj (rd (aj g 15).toList (IntKind.i64.wrap ((i:Int) - 1))) 0).toInt)]))=some (.inl [PV.bool (cI (aj (rd (aj g 15).toList i) 0).toInt (aj (rd (aj g 15).toList (i - 1:Nat)) 0).toInt)]:List PV ⊕ (List PV ⊕ List PV))∨bq (i:Int) 0=false:=by
   by_cases h0:i=0
   ·subst h0; exact .inr rfl
   ·refine .inl ?_
    rw [eV (by omega) hi (w.aj 15).len,aB (show i - 1<(aj g 15).toList.length by omega)]; rfl
  generalize SN _ _=p;generalize qw _ _=cv;generalize bq ((aj (rd (aj g 15).toList i) 3).toList.length:Int) 8=tl;generalize List.all _ _=al;rcases hz with hz|hz
  ·rw [hz]
   generalize cI _ _=lb;generalize bq (i:Int) 0=gb;cases hc:(cv != 0)<;>cases p<;>cases gb<;>cases lb<;>cases tl<;>cases al<;>simp [hc]
  ·rw [hz]
   cases hc:(cv != 0)<;>cases p<;>cases tl<;>cases al<;>simp [hc]
 ·intro j hj hm
  simp only [aA,toInt_int,aB hj,au,Zk _ _ ws ((((w.aj 15).rd i).aj 3).mem hm) l0 l1,an,ak,e0,e1,Zl,bne];generalize vmB _ _ _=v;generalize ((aj (rd (aj (rd (aj g 15).toList i) 3).toList j) 0).toInt==1)=s1;generalize ((aj (rd (aj (rd (aj g 15).toList i) 3).toList j) 0).toInt==2)=s2;cases v<;>cases s1<;>cases s2<;>rfl
theorem Q0 (g:PV) (w:Wf g) (sm:Small g):nO [g]=tT g:=by
 simp only [nO,aA,tT];rw [bO _ (w.aj 15).len [] _ _ (Cp g)];intro i hi;obtain ⟨e0,e1,ws,l0,l1⟩:=Zm g w sm i hi;simp only [aA,toInt_int,aB hi,au,AB g _ w,Co _ ws l0 l1,an,aQ,ak];rw [aY _ (((w.aj 15).rd i).aj 3).len [] _ _ (.inr [.int 23]) (Zl (rd (aj g 15).toList i))]
 ·simp only [e0,e1,Cp]
  have hz:aC (bp (IntKind.i64.wrap ((i:Int) - 1)) (aj g 15).toList.length) (some (.inl [PV.bool (cI (aj (rd (aj g 15).toList i) 0).toInt (aj (rd (aj g 15).toList (IntKind.i64.wrap ((i:Int) - 1))) 0).toInt)]))=some (.inl [PV.bool (cI (aj (rd (aj g 15).toList i) 0).toInt (aj (rd (aj g 15).toList (i - 1:Nat)) 0).toInt)]:List PV ⊕ (List PV ⊕ List PV))∨bq (i:Int) 0=false:=by
   by_cases h0:i=0
   ·subst h0; exact .inr rfl
   ·refine .inl ?_
    rw [eV (by omega) hi (w.aj 15).len,aB (show i - 1<(aj g 15).toList.length by omega)]; rfl
  generalize SN _ _=p;generalize qw _ _=cv;generalize bq ((aj (rd (aj g 15).toList i) 3).toList.length:Int) 8=tl;generalize List.all _ _=al;rcases hz with hz|hz
  ·rw [hz]
   generalize cI _ _=lb;generalize bq (i:Int) 0=gb;cases hc:(cv != 0)<;>cases p<;>cases gb<;>cases lb<;>cases tl<;>cases al<;>simp [hc]
  ·rw [hz]
   cases hc:(cv != 0)<;>cases p<;>cases tl<;>cases al<;>simp [hc]
 ·intro j hj hm
  simp only [aA,toInt_int,aB hj,au,Wp _ _ ws ((((w.aj 15).rd i).aj 3).mem hm) l0 l1,an,ak,e0,e1,Zl,bne];generalize vmB _ _ _=v;generalize ((aj (rd (aj (rd (aj g 15).toList i) 3).toList j) 0).toInt==1)=s1;generalize ((aj (rd (aj (rd (aj g 15).toList i) 3).toList j) 0).toInt==2)=s2;cases v<;>cases s1<;>cases s2<;>rfl
def AE (x:Option (List PV)):Prop:= ∃ n,x=some [.int n]
theorem Q1 {step:Nat→Option (List PV)} {E:Option (List PV)} (hs: ∀ i r,step i=some r→ ∃ n,r=[.int n]) (hE:AE E): ∀ k i,AE (scan (fun i=>(step i).map some) E k i):=by
 intro k;induction k with
 |zero=>intro i; exact hE
 |succ k ih=>
  intro i;simp only [scan];cases h:step i with
  |none=>exact ih (i+1)
  |some r=>obtain ⟨n,rfl⟩:=hs i r h; exact ⟨n,rfl⟩
theorem Zn {step:PV→Option (List PV)} {E:Option (List PV)} (hs: ∀ i r,step i=some r→ ∃ n,r=[.int n]) (hE:AE E) (L:List PV):AE ((L.findSome? fun x=>(step x).map some).getD E):=by
 induction L with
 |nil=>exact hE
 |cons a l ih=>
  simp only [List.findSome?_cons];cases h:step a with
  |none=>exact ih
  |some r=>obtain ⟨n,rfl⟩:=hs a r h; exact ⟨n,rfl⟩
theorem ff {b:Bool} {x y:Option (List PV)} (hx:AE x) (hy:AE y):AE (cond b x y):=by cases b; exact hy; exact hx
theorem xQ {b:Bool} {x y:Option (List PV)} {r:List PV} (h:cond b x y=some r) (hx:x=some r→ ∃ n,r=[.int n]) (hy:y=some r→ ∃ n,r=[.int n]): ∃ n,r=[.int n]:=by
 cases b; exact hy h; exact hx h
theorem xR {n:Int} {r:List PV} (h:some [PV.int n]=some r): ∃ n,r=[.int n]:=⟨n,(Option.some.inj h).symm⟩
theorem xS (g:PV):AE (tR g):=by
 refine ff ⟨_,rfl⟩ (Q1 (fun i r h=> ?_) ⟨_,rfl⟩ _ _);exact xQ h xR fun h=>xQ h xR fun h=>xQ h xR fun h=>xQ h xR fun h=>by simp at h
theorem IV (g:PV):AE (Wh g):=ff ⟨_,rfl⟩ (ff ⟨_,rfl⟩ (ff (ff ⟨_,rfl⟩ (ff ⟨_,rfl⟩ ⟨_,rfl⟩)) ⟨_,rfl⟩))
theorem D_ (g:PV):AE (D8 g):=by
 refine ff ⟨_,rfl⟩ (Zn (fun i r h=> ?_) ⟨_,rfl⟩ _);exact xQ h xR fun h=>xQ h (fun h=>by simp at h) xR
theorem xT (g:PV):AE (tT g):=by
 refine Q1 (fun i r h=> ?_) ⟨_,rfl⟩ _ _;exact xQ h xR fun h=>xQ h xR fun h=>xQ h xR fun h=>xQ h xR fun h=>xQ h (fun h=>by simp at h) xR
def Zp (g:PV):Option (List PV):=cond (vR (aP g) != 0) (some [.int (vR (aP g))]) (cond (!IC (xL g)) (some [.int 1]) (andThen (tR g) fun r=>cond ((nth r 0).toInt != 0) (some [.int (nth r 0).toInt]) (andThen (Wh g) fun r=>cond ((nth r 0).toInt != 0) (some [.int (nth r 0).toInt]) (andThen (D8 g) fun r=>cond ((nth r 0).toInt != 0) (some [.int (nth r 0).toInt]) (cond (!V_ g) (some [.int 1]) (andThen (tT g) fun r=>cond ((nth r 0).toInt != 0) (some [.int (nth r 0).toInt]) (some [.int (cond (aaK g) 0 1)])))))))
theorem Cq {x:Option (List PV)} {k:List PV→Option (List PV)} (hx:AE x) (hk: ∀ n,AE (k [.int n])):AE (andThen x k):=by
 obtain ⟨n,rfl⟩:=hx; exact hk n
theorem aaS (g:PV):AE (Zp g):=
 ff ⟨_,rfl⟩ (ff ⟨_,rfl⟩ (Cq (xS g) fun _=>ff ⟨_,rfl⟩ (Cq (IV g) fun _=>ff ⟨_,rfl⟩ (Cq (D_ g) fun _=>ff ⟨_,rfl⟩ (ff ⟨_,rfl⟩ (Cq (xT g) fun _=>ff ⟨_,rfl⟩ ⟨_,rfl⟩))))))
theorem IW (g:PV) (w:Wf g) (sm:Small g):iP [g]=Zp g:=by
 simp only [iP,sL,aA,aQ,toInt_int,show ((1:Int)==1)=true from rfl,cond_true];rw [show aJ g 5 3=aP g from rfl,show aJ g 8 3=xL g from rfl,xK [aP g] sm.r (w.aJ 5 3),zo [xL g] (w.aJ 8 3)];simp only [an,aA,toInt_int,ak,Zp];cases hv:(vR (aP g) != 0) with
 |true=>rfl
 |false=>
 have hl:=SD (UD (by simpa using hv:vR (aP g)=0)).1;simp only [cond_false,aR];cases hm:IC (xL g) with
 |false=>rfl
 |true=>
 simp only [Bool.not_true,cond_false,aR];rw [J5 g w sm.r hl,FO g w sm.r sm.u hl,Cg g w sm.r,IF g w sm.r hl,Ke g w sm,IE g w];obtain ⟨n1,h1⟩:=xS g;obtain ⟨n2,h2⟩:=IV g;obtain ⟨n3,h3⟩:=D_ g;obtain ⟨n4,h4⟩:=xT g;rw [h1,h2,h3,h4];simp only [an,aA,toInt_int];cases n1 != 0 with
 |true=>rfl
 |false=>
 cases n2 != 0 with
 |true=>rfl
 |false=>
 cases n3 != 0 with
 |true=>rfl
 |false=>
 cases V_ g with
 |false=>rfl
 |true=>
 cases n4 != 0 with
 |true=>rfl
 |false=>rfl
theorem NO (g:PV) (w:Wf g) (sm:Small g):mg [g]=Zp g:=by
 simp only [mg,aA];rw [show aJ g 5 3=aP g from rfl,show aJ g 8 3=xL g from rfl,Cd [aP g] sm.r (w.aJ 5 3),LF [xL g] (w.aJ 8 3)];simp only [an,aA,toInt_int,ak,Zp];cases hv:(vR (aP g) != 0) with
 |true=>rfl
 |false=>
 simp only [cond_false];cases hm:IC (xL g) with
 |false=>rfl
 |true=>
 have hf:ZH (xL g)=true:=by simp only [IC,Bool.and_eq_true] at hm; exact hm.1
 simp only [Bool.not_true,cond_false];rw [QE g w sm.r,NJ g w sm.r sm.u,V9 g w sm.r,NC g w sm.r hf,Q0 g w sm];obtain ⟨n1,h1⟩:=xS g;obtain ⟨n2,h2⟩:=IV g;obtain ⟨n3,h3⟩:=D_ g;obtain ⟨n4,h4⟩:=xT g;rw [h1,h2,h3,h4];simp only [an,aA,toInt_int,ak,Ch]
 congr 1
 congr 1
 congr 1
 congr 1
 congr 1
 rw [Uz _ (w.aj 11).len _ _ (fun p=>(aj g 2).toInt==(aj p 1).toInt)]
 ·simp only [aA,ak,aaK]
  have e:(fun p=>(aj g 2).toInt==(aj p 1).toInt)=fun p=>(aj p 1).toInt==(aj g 2).toInt:=by
   funext p; rw [Bool.eq_iff_iff,beq_iff_eq,beq_iff_eq]; exact eq_comm
  rw [e];generalize List.any _ _=a;have hb: ∀ x lo hi:Int,mB x lo hi= !(aK x lo||bq x hi):=by
   intro x lo hi; simp only [mB,bE,cI,aK,bq]; grind
  rw [hb,hb];generalize ((aj g 2).toInt==0||(aj g 2).toInt==(-1))=b;generalize aK (aj g 0).toInt 0=c1;generalize bq (aj g 0).toInt 1048576=c2;generalize aK (aj g 1).toInt 1=c3;generalize bq (aj g 1).toInt 1099511627776=c4;cases a<;>cases b<;>cases c1<;>cases c2<;>cases c3<;>cases c4<;>rfl
 ·intro i hi hm b
  simp only [aA,aQ,toInt_int,ak,aB hi,au,Ch]
end
end Go.Sy.V
namespace Go.Sy.V
open PV Go.Sy
noncomputable section
def adl (m:PV):Bool:= !(bq ((aj m 1).toList.length:Int) 2000||bq ((aj m 2).toList.length:Int) 200)
def aaT (s:PV):Bool:= !(bq ((aj s 2).toList.length:Int) 3000||(bq ((aj s 3).toList.length:Int) 20||bq ((aj s 1).toList.length:Int) 20))
def IX (g:PV):Bool:=(aj g 14).toList.all adl&&((aj g 15).toList.all aaT&&(!(bq ((aj g 5).toList.length:Int) 40||(bq ((aj g 6).toList.length:Int) 40||bq ((aj g 7).toList.length:Int) 40))&&
 (cI ((aj g 10).toList.length:Int) 1100&&(cI ((aj g 12).toList.length:Int) 100&&(cI ((aj g 13).toList.length:Int) 100&&(cI ((aj g 11).toList.length:Int) 20&&(cI ((aj g 14).toList.length:Int) 20&&cI ((aj g 15).toList.length:Int) 20)))))))
theorem Wq (g:PV) (w:Wf g):eL [g]=some [.bool (IX g)]:=by
 simp only [eL,aA];rw [aY _ (w.aj 14).len [] _ _ [.bool false] adl]
 ·rw [aY _ (w.aj 15).len [] _ _ [.bool false] aaT]
  ·simp only [IX]
   generalize bq ((aj g 5).toList.length:Int) 40=a;generalize bq ((aj g 6).toList.length:Int) 40=b;generalize bq ((aj g 7).toList.length:Int) 40=c;generalize cI ((aj g 10).toList.length:Int) 1100=d;generalize cI ((aj g 12).toList.length:Int) 100=e;generalize cI ((aj g 13).toList.length:Int) 100=f;generalize cI ((aj g 11).toList.length:Int) 20=i;generalize cI ((aj g 14).toList.length:Int) 20=j;generalize cI ((aj g 15).toList.length:Int) 20=k;generalize List.all _ _=x;generalize List.all _ _=y;cases x<;>cases y<;>cases a<;>cases b<;>cases c<;>cases d<;>cases e<;>cases f<;>cases i<;>cases j<;>cases k<;>rfl
  ·intro i hi hm
   simp only [aA,toInt_int,aB hi,au,aaT];generalize bq _ 3000=a;generalize bq ((aj (rd (aj g 15).toList i) 3).toList.length:Int) 20=b;generalize bq ((aj (rd (aj g 15).toList i) 1).toList.length:Int) 20=c;cases a<;>cases b<;>cases c<;>rfl
 ·intro i hi hm
  simp only [aA,toInt_int,aB hi,au,adl];generalize bq _ 2000=a;generalize bq _ 200=b;cases a<;>cases b<;>rfl
theorem Q2 {g:PV} (h:IX g=true):Small g:=by
 simp only [IX,Bool.and_eq_true,List.all_eq_true,aaT,Bool.not_eq_true',Bool.or_eq_false_iff,bq,cI,decide_eq_false_iff_not,decide_eq_true_eq] at h;obtain ⟨_,hs,⟨h5,h6,h7⟩,_,h12,_⟩:=h;have e0:aj (aP g) 0=aj g 5:=fB g 5 3 0 (by omega);have e1:aj (aP g) 1=aj g 6:=fB g 5 3 1 (by omega);have e2:aj (aP g) 2=aj g 7:=fB g 5 3 2 (by omega);refine ⟨⟨by rw [e0]; omega,by rw [e1]; omega,by rw [e2]; omega⟩,by omega,fun s hm=> ?_⟩;have:=hs s hm;omega
theorem Zq (g:PV) (w:Wf g):cD [g]=some [.bool true]:=by
 simp only [cD,aA,Wq g w,an,ak];cases hs:IX g with
 |false=>rfl
 |true=>
  obtain ⟨n,hn⟩:=aaS g;rw [IW g w (Q2 hs),NO g w (Q2 hs),hn];simp only [Bool.not_true,cond_false,an,aA,toInt_int,beq_self_eq_true,cond_true];rfl
end
end Go.Sy.V
