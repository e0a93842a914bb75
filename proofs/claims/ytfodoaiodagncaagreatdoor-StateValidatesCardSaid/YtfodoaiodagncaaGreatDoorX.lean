/-
  Proved here: contracts of the functions that the law reaches, and of the law: it answers true for every game. Its condition is that the listed variables hold their tables.
-/
import Derived.Test.YtfodoaiodagncaaGreatDoorW
import Derived.Test.YtfodoaiodagncaaGreatDoorP
import Derived.KernelRfl
import Derived.Test.YtfodoaiodagncaaGreatDoorProg
set_option linter.unusedVariables false
set_option linter.unusedSimpArgs false
set_option maxRecDepth 100000
namespace Go.Sy
open Go.Proofs Go.Sim
noncomputable section
def Zv (P:Program) (f:FuncId) (ps rs:List TypeId):Bool:=match P.funcs[f]? with
 |some fn=>match fn.body with
  |some _=>decide (fn.params.toList=ps)&&decide (fn.resultTypes.toList=rs)
  |none=>false
 |none=>false
def abJ (P:Program) (f:FuncId) (ps:List TypeId):Bool:=match P.funcs[f]? with
 |some fn=>match fn.body with
  |some _=>decide (fn.params.toList=ps)
  |none=>false
 |none=>false
def LM (P:Program) (G:yZ):List CX→Prop
 |[]=>True
 |c::l=>Au P G c∧LM P G l
theorem LM.all {P:Program} {G:yZ}: ∀ {l:List CX},LM P G l→ ∀ c∈l,Au P G c
 |[],_,_,hc=>by simp at hc
 |a::l,h,c,hc=>by
  rcases List.mem_cons.1 hc with rfl|hc
  ·exact h.1
  ·exact h.2.all c hc
theorem Og {P:Program} (hN:aX P) (hM:P.follows .mixedOrders=true) {G:yZ} {l:List CX} (hl:LM P G l) {jo:FuncId→Option Hint} {n:Nat} {f:FuncId} {h:Hint} {F:List PV→Option (List PV)} (e:fnK P (Lt P (tJ P G (Qn P l)) (Uq P l) jo n) (pcA P (tJ P G (Qn P l)) (Uq P l) jo n) f h=F) {ps rs:List TypeId} (hb:Zv P f ps rs=true):Au P G (.c ⟨f,ps,rs,F⟩):=by
 unfold Zv at hb;split at hb
 ·rename_i fn h1
  split at hb
  ·rename_i c h2
   simp only [Bool.and_eq_true,decide_eq_true_eq] at hb;exact aeI hN hM hl.all e h1 h2 hb.1 hb.2
  ·simp at hb
 ·simp at hb
theorem Q4 {P:Program} (hN:aX P) (hM:P.follows .mixedOrders=true) {G:yZ} {l:List CX} (hl:LM P G l) {jo:FuncId→Option Hint} {n:Nat} {f:FuncId} {h:Hint} {el:TypeId} (hfl:zj P el=true) {F:List PV→Option (List PV)} (e:fnO P (Lt P (tJ P G (Qn P l)) (Uq P l) jo n) (pcA P (tJ P G (Qn P l)) (Uq P l) jo n) f el h=F) {ps:List TypeId} (hb:abJ P f ps=true):Au P G (.o ⟨f,ps,el,F⟩):=by
 unfold abJ at hb;split at hb
 ·rename_i fn h1
  split at hb
  ·rename_i c h2
   simp only [decide_eq_true_eq] at hb;exact acV hN hM hl.all hfl e h1 h2 hb
  ·simp at hb
 ·simp at hb
abbrev OK (c:CX):Prop:=Au Tryz.prog rT c
theorem cK:aX Tryz.prog:=HA Zu
abbrev lf:Hint:= .leaf
abbrev tw (a b:Hint):Hint:= .two a b
abbrev tl (a:Hint):Hint:= .two .leaf a
abbrev me (l:List (Nat×uP)) (a:Hint):Hint:= .meet {slots:=l} a
abbrev lo (l:List (Nat×uP)) (k:List Nat) (a:Hint):Hint:= .loop {slots:=l,cw:=k} a
abbrev sv (n t:Nat):Nat×uP:=(n, .val t)
theorem B0 (l:List CX) (h:Hint) (hl:LM Tryz.prog rT l) {f:FuncId} {F:List PV→Option (List PV)} {ps rs:List TypeId} (e:fnK Tryz.prog (Lt Tryz.prog (tJ Tryz.prog rT (Qn Tryz.prog l)) (Uq Tryz.prog l) (fG []) 0) (pcA Tryz.prog (tJ Tryz.prog rT (Qn Tryz.prog l)) (Uq Tryz.prog l) (fG []) 0) f h=F) (hb:Zv Tryz.prog f ps rs=true):Au Tryz.prog rT (.c ⟨f,ps,rs,F⟩):=Og cK dI hl e hb
def xU:CX:= .c ⟨370,[3],[4],xC⟩
theorem IY:OK xU:=B0 [] (tl (tw (me [sv 2 4] lf) lf)) trivial (by kernel_rfl) (by kernel_rfl)
def mu:CX:= .c ⟨324,[3],[3,4,4],eD⟩
def IZ:List (Nat×Hint):=[(369,lf)]
theorem qx:OK mu:=Og cK dI (l:=[xU]) (h:=lf) (jo:=fG IZ) (n:=8) ⟨IY,trivial⟩ (by kernel_rfl) (by kernel_rfl)
def zw:CX:= .c ⟨326,[177],[3,3],nA⟩
theorem Kf:OK zw:=B0 [mu] (tl (tw (tl (tw (tw (tl (me [sv 12 4] lf)) (tl (tw (tl (me [sv 15 4] (tl (tl (me [sv 15 4] lf))))) (tl (tl (tw (tw (tw (me [sv 28 4] lf) lf) lf) lf)))))) lf)) lf)) ⟨qx,trivial⟩ (by kernel_rfl) (by kernel_rfl)
def kZ:CX:= .c ⟨253,[297],[4],dX⟩
theorem tV:OK kZ:=B0 [zw] (tl (tl (tl (tw (tl (tw (lo [sv 3 3,sv 5 3,(4, .M5 362)] [2,11] (tl (tw (tw (tl (tl (tl (tw (tw (me [sv 44 4] lf) lf) (tl (tl (tw (tw (tl (me [sv 52 4] (tl (tl (me [sv 52 4] (tl (tl (me [sv 52 4] lf)))))))) (.meet {} (tl (tw (tl (me [sv 59 4] (tl (tl (me [sv 59 4] lf))))) (.meet {} lf))))) lf))))))) lf) lf))) lf)) (tw (tl (tw (lo [sv 9 3] [] (tl (tw (tw (tl (tw (me [sv 95 4] lf) lf)) lf) lf))) lf)) lf))))) ⟨Kf,trivial⟩ (by kernel_rfl) (by kernel_rfl)
def Cr:CX:= .c ⟨325,[49,9],[4],lK⟩
def NP:List (Nat×Hint):=[(247,lf),(322, .mD {slots:=[sv 4 3]} (tl (tw (tl (tw (lo [sv 8 3] [4] lf) lf)) lf))),(371,lf)]
theorem NQ:OK Cr:=Og cK dI (l:=[]) (h:=lf) (jo:=fG NP) (n:=8) trivial (by kernel_rfl) (by kernel_rfl)
def iR:CX:= .c ⟨201,[9],[4],dK⟩
theorem mw:OK iR:=B0 [] (tl (tw (tw (me [sv 21 4] lf) lf) (tw (tl (tw (lo [sv 24 3] [2] (tl (tl (tw (tw (tl (tl (tw (me [sv 47 4] lf) lf))) lf) lf)))) lf)) lf))) trivial (by kernel_rfl) (by kernel_rfl)
def oL:CX:= .c ⟨252,[297,177],[4],fJ⟩
theorem y7:OK oL:=B0 [Cr,iR,mu] (tl (tl (tw (tl (tw (tl (tw (tw (me [sv 4 4] lf) lf) (tw (tl (me [sv 29 4] lf)) (tw (tw (me [sv 4 4] lf) lf) (tl (tw (tw (me [sv 4 4] lf) lf) (tw (tl (me [sv 64 4] lf)) (tw (tw (me [sv 4 4] lf) lf) (tw (tl (me [sv 85 4] lf)) (tw (tl (tl (tw (tl (me [sv 11 4] (tw (me [sv 11 4] lf) lf))) (tw (me [sv 4 4] lf) lf)))) (tl (tw (tw (me [sv 4 4] lf) lf) (tw (tl (me [sv 139 4] lf)) (tw (tw (me [sv 4 4] lf) lf) lf)))))))))))))) lf)) lf))) ⟨NQ,mw,qx,trivial⟩ (by kernel_rfl) (by kernel_rfl)
def rU:CX:= .c ⟨361,[3,3,3],[3],n8⟩
theorem xV:OK rU:=B0 [] lf trivial (by kernel_rfl) (by kernel_rfl)
def xW:CX:= .c ⟨365,[207],[3],lM⟩
theorem I0:OK xW:=B0 [rU] lf ⟨xV,trivial⟩ (by kernel_rfl) (by kernel_rfl)
def LN:CX:= .c ⟨412,[71,71],[3],DT⟩
theorem Wv:OK LN:=B0 [] lf trivial (by kernel_rfl) (by kernel_rfl)
def I1:CX:= .c ⟨368,[3],[3],u_⟩
theorem S5:OK I1:=B0 [rU] lf ⟨xV,trivial⟩ (by kernel_rfl) (by kernel_rfl)
def jg:CX:= .c ⟨321,[71],[71],ep⟩
theorem nP:OK jg:=B0 [I1] lf ⟨S5,trivial⟩ (by kernel_rfl) (by kernel_rfl)
def LO:CX:= .c ⟨391,[71,71],[3],DU⟩
theorem Ww:OK LO:=B0 [LN,jg] lf ⟨Wv,nP,trivial⟩ (by kernel_rfl) (by kernel_rfl)
def I2:CX:= .c ⟨366,[71],[3],vc⟩
theorem S6:OK I2:=B0 [LO] lf ⟨Ww,trivial⟩ (by kernel_rfl) (by kernel_rfl)
def E_:CX:= .c ⟨393,[71],[71],xD⟩
theorem Q5:OK E_:=B0 [] lf trivial (by kernel_rfl) (by kernel_rfl)
def LP:CX:= .c ⟨392,[444],[71],DV⟩
theorem Wx:OK LP:=B0 [jg] (tl (tl (tw (tl (tw (.loop {slots:=[sv 8 3],boxes:=[(1,[.val 3, .val 3])]} lf) lf)) lf))) ⟨nP,trivial⟩ (by kernel_rfl) (by kernel_rfl)
def Ec:CX:= .c ⟨367,[71,71],[71],tK⟩
theorem LQ:OK Ec:=B0 [E_,jg,LP] lf ⟨Q5,nP,Wx,trivial⟩ (by kernel_rfl) (by kernel_rfl)
def vT:CX:= .c ⟨320,[207,207],[4],jq⟩
theorem FP:OK vT:=B0 [xW,I2,Ec] lf ⟨I0,S6,LQ,trivial⟩ (by kernel_rfl) (by kernel_rfl)
def rV:CX:= .c ⟨244,[104],[4],gV⟩
def Cs:List (Nat×Hint):=[(318,lf),(364, .mD {slots:=[sv 4 3]} (tl (tw (tl (tw (lo [sv 8 3] [4] lf) lf)) lf))),(319,lf)]
theorem Ct:OK rV:=Og cK dI (l:=[vT]) (h:=(tl (tw (tl (tw (lo [sv 7 3] [2] lf) lf)) lf))) (jo:=fG Cs) (n:=8) ⟨FP,trivial⟩ (by kernel_rfl) (by kernel_rfl)
def vU:CX:= .c ⟨249,[49],[293,4],jr⟩
theorem FQ:OK vU:=B0 [] (tl (tl (tw (tl (tw (lo [(4, .own 297),sv 11 3] [2,3] (tl (tl (tw (tw (tl (tl (tw (tl (me [sv 7 3] lf)) (tw (tw (me [sv 76 4] lf) lf) lf)))) lf) lf)))) lf)) lf))) trivial (by kernel_rfl) (by kernel_rfl)
def oG:CX:= .c ⟨133,[49],[40],gE⟩
def FT:List (Nat×Hint):=[(247,lf),(322, .mD {slots:=[sv 4 3]} (tl (tw (tl (tw (lo [sv 8 3] [4] lf) lf)) lf))),(248,lf),(250,lf),(323, .mD {slots:=[sv 4 3]} (tl (tw (tl (tw (lo [sv 8 3] [4] lf) lf)) lf))),(251,lf)]
theorem vV:OK oG:=Og cK dI (l:=[kZ,oL,vU,iR]) (h:=(tl (tw (tw (me [sv 32 4] lf) lf) (tw (tl (tw (lo [sv 36 3] [2] lf) lf)) (tw (tl (tw (lo [sv 48 3] [] lf) lf)) (tl (tl (tw (tl (tw (lo [sv 69 3] [] (tl (tl (tw (tw (tl (tw (me [sv 86 4] lf) lf)) lf) lf)))) lf)) lf)))))))) (jo:=fG FT) (n:=8) ⟨tV,y7,FQ,mw,trivial⟩ (by kernel_rfl) (by kernel_rfl)
def gT:CX:= .o ⟨228,[63],9,cj⟩
theorem mJ:OK gT:=Q4 cK dI (hfl:=by kernel_rfl) (l:=[]) (h:=lf) (jo:=fG []) (n:=0) trivial (by kernel_rfl) (by kernel_rfl)
def rW:CX:= .c ⟨305,[67],[67],gW⟩
theorem Cu:OK rW:=B0 [gT] lf ⟨mJ,trivial⟩ (by kernel_rfl) (by kernel_rfl)
def ew:CX:= .c ⟨114,[67],[9],aH⟩
theorem fW:OK ew:=B0 [] lf trivial (by kernel_rfl) (by kernel_rfl)
def gz:CX:= .c ⟨230,[27,9],[67,4],dL⟩
def NR:List (Nat×Hint):=[(113,tl (.mD {slots:=[sv 7 4],boxes:=[(1000000,[.val 9, .val 4, .val 4, .val 3, .val 3, .val 3, .val 3, .val 3, .val 3, .val 3, .val 3, .val 3, .val 9, .val 3, .val 3, .val 3, .val 63, .val 63, .val 63])]} (tw (tl (tw (.loop {slots:=[sv 13 3],boxes:=[(1000000,[.val 9, .val 4, .val 4, .val 3, .val 3, .val 3, .val 3, .val 3, .val 3, .val 3, .val 3, .val 3, .val 9, .val 3, .val 3, .val 3, .val 63, .val 63, .val 63])],cw:=[7]} lf) lf)) lf)))]
theorem iS:OK gz:=Og cK dI (l:=[rW,ew]) (h:=lf) (jo:=fG NR) (n:=8) ⟨Cu,fW,trivial⟩ (by kernel_rfl) (by kernel_rfl)
def sP:CX:= .c ⟨314,[27,75],[207,4],i6⟩
theorem zx:OK sP:=B0 [gz] (tl (tl (tw (tw (me [sv 20 4] lf) lf) lf))) ⟨iS,trivial⟩ (by kernel_rfl) (by kernel_rfl)
def vW:CX:= .o ⟨245,[27,32],207,jt⟩
def FU:List (Nat×Hint):=[(238,lf),(313,tl (tw (.loop {slots:=[sv 10 3],boxes:=[(11,[]),(2,[.own 207])]} lf) lf))]
theorem FV:OK vW:=Q4 cK dI (hfl:=by kernel_rfl) (l:=[sP]) (h:=lf) (jo:=fG FU) (n:=8) ⟨zx,trivial⟩ (by kernel_rfl) (by kernel_rfl)
def xX:CX:= .c ⟨243,[75],[4],qk⟩
theorem I3:OK xX:=B0 [] lf trivial (by kernel_rfl) (by kernel_rfl)
def I4:CX:= .c ⟨315,[3],[3],ve⟩
theorem S7:OK I4:=B0 [] lf trivial (by kernel_rfl) (by kernel_rfl)
def sQ:CX:= .c ⟨239,[71],[201],nB⟩
theorem zy:OK sQ:=B0 [I4] lf ⟨S7,trivial⟩ (by kernel_rfl) (by kernel_rfl)
def vX:CX:= .c ⟨360,[67,71],[71],oE⟩
theorem FW:OK vX:=B0 [Ec] lf ⟨LQ,trivial⟩ (by kernel_rfl) (by kernel_rfl)
def zA:CX:= .c ⟨308,[27,75],[196,4],nC⟩
theorem Kg:OK zA:=B0 [sQ,vX,gz] (tl (tl (tw (tw (me [sv 42 4] lf) lf) lf))) ⟨zy,FW,iS,trivial⟩ (by kernel_rfl) (by kernel_rfl)
def oM:CX:= .c ⟨128,[37],[4],fK⟩
theorem y8:OK oM:=B0 [rV,vW,xX,gz] (tl (tw (tl (tw (lo [sv 10 3] [2] (tl (tl (tw (tw (tl (tl (tw (tw (me [sv 50 4] lf) lf) (tw (me [sv 74 4] lf) lf)))) lf) lf)))) lf)) lf)) ⟨Ct,FV,I3,iS,trivial⟩ (by kernel_rfl) (by kernel_rfl)
def iT:CX:= .c ⟨206,[99],[9],bG⟩
theorem nh:OK iT:=B0 [] lf trivial (by kernel_rfl) (by kernel_rfl)
def vC:CX:= .c ⟨124,[27,9],[99,4],lP⟩
def NS:List (Nat×Hint):=[(215,tl (.mD {slots:=[sv 7 4],boxes:=[(1000000,[.val 9, .val 63, .val 3, .val 3, .val 3, .val 9, .val 3, .val 3])]} (tw (tl (tw (.loop {slots:=[sv 13 3],boxes:=[(1000000,[.val 9, .val 63, .val 3, .val 3, .val 3, .val 9, .val 3, .val 3])],cw:=[7]} lf) lf)) lf)))]
theorem Cv:OK vC:=Og cK dI (l:=[iT,gT]) (h:=lf) (jo:=fG NS) (n:=8) ⟨nh,mJ,trivial⟩ (by kernel_rfl) (by kernel_rfl)
def xY:CX:= .c ⟨126,[37,75],[4],lQ⟩
def I5:List (Nat×Hint):=[(231,lf),(306, .mD {slots:=[sv 4 3]} (tl (tw (tl (tw (lo [sv 8 3] [4] lf) lf)) lf))),(232,lf)]
theorem I6:OK xY:=Og cK dI (l:=[vC,gz]) (h:=(tl (tl (tw (tw (me [sv 29 4] lf) lf) (tw (tl (tw (lo [sv 33 3] [4] (tl (tl (tw (tw (tl (tl (tl (tw (me [sv 72 4] lf) lf)))) lf) lf)))) lf)) lf))))) (jo:=fG I5) (n:=8) ⟨Cv,iS,trivial⟩ (by kernel_rfl) (by kernel_rfl)
def xZ:CX:= .c ⟨309,[196,196],[196],n9⟩
theorem Fa:OK xZ:=B0 [] (tl (tl (tl (tw (tw (me [sv 70 4] lf) lf) lf)))) trivial (by kernel_rfl) (by kernel_rfl)
def ot:CX:= .c ⟨311,[3],[3],dR⟩
theorem rX:OK ot:=B0 [rU] lf ⟨xV,trivial⟩ (by kernel_rfl) (by kernel_rfl)
def rY:CX:= .c ⟨310,[196],[196],kj⟩
theorem x5:OK rY:=B0 [ot] lf ⟨rX,trivial⟩ (by kernel_rfl) (by kernel_rfl)
def Fb:CX:= .c ⟨234,[3,3,196],[196],rD⟩
theorem Q6:OK Fb:=B0 [xZ,ot,rY] lf ⟨Fa,rX,x5,trivial⟩ (by kernel_rfl) (by kernel_rfl)
def AG:CX:= .c ⟨317,[201],[201],vf⟩
theorem I7:OK AG:=B0 [ot] lf ⟨rX,trivial⟩ (by kernel_rfl) (by kernel_rfl)
def zB:CX:= .c ⟨242,[196,201],[4],nD⟩
theorem Kh:OK zB:=B0 [AG,rY] (tl (tl (tw (me [sv 4 4] lf) lf))) ⟨I7,x5,trivial⟩ (by kernel_rfl) (by kernel_rfl)
def Fc:CX:= .c ⟨237,[196,196],[4],rE⟩
theorem Q7:OK Fc:=B0 [xZ,rY] lf ⟨Fa,x5,trivial⟩ (by kernel_rfl) (by kernel_rfl)
def Cw:CX:= .c ⟨363,[3,201],[3],vg⟩
theorem NT:OK Cw:=B0 [ot,AG] lf ⟨rX,I7,trivial⟩ (by kernel_rfl) (by kernel_rfl)
def LR:CX:= .c ⟨390,[3,3,201],[4],yL⟩
theorem Wy:OK LR:=B0 [] (tl (tw (me [sv 6 4] lf) lf)) trivial (by kernel_rfl) (by kernel_rfl)
def Cx:CX:= .c ⟨226,[3,3],[4],o_⟩
theorem NU:OK Cx:=B0 [] (tl (tw (me [sv 4 4] lf) lf)) trivial (by kernel_rfl) (by kernel_rfl)
def ni:CX:= .c ⟨119,[30],[4],fS⟩
theorem tW:OK ni:=B0 [Cx] (tl (tw (me [sv 2 4] lf) lf)) ⟨NU,trivial⟩ (by kernel_rfl) (by kernel_rfl)
def tX:CX:= .c ⟨362,[30,201],[4],iK⟩
theorem Ed:OK tX:=B0 [LR,ni] (tl (tw (me [sv 4 4] lf) lf)) ⟨Wy,tW,trivial⟩ (by kernel_rfl) (by kernel_rfl)
def zC:CX:= .c ⟨316,[30,201],[69,4],nE⟩
theorem Ki:OK zC:=B0 [Cw,tX] lf ⟨NT,Ed,trivial⟩ (by kernel_rfl) (by kernel_rfl)
def qy:CX:= .c ⟨240,[30,3,201],[4],gu⟩
theorem AH:OK qy:=B0 [zC] (tl (tl (tw (tw (me [sv 24 4] lf) lf) (tw (me [sv 6 4] (.any)) lf)))) ⟨Ki,trivial⟩ (by kernel_rfl) (by kernel_rfl)
def vY:CX:= .c ⟨127,[37],[4],ju⟩
def FX:List (Nat×Hint):=[(233,lf),(307,tl (tw (.loop {slots:=[sv 10 3],boxes:=[(13,[]),(1,[.val 4]),(2,[.own 196])]} lf) lf)),(235,lf),(312, .mD {slots:=[sv 4 3]} (tl (tw (tl (tw (lo [sv 8 3] [4] lf) lf)) lf))),(236,lf),(238,lf),(313,tl (tw (.loop {slots:=[sv 10 3],boxes:=[(30,[]),(1,[.val 4])]} lf) lf)),(241,lf)]
theorem FY:OK vY:=Og cK dI (l:=[sP,zA,sQ,Fb,zB,Fc,gz,qy]) (h:=(tl (tl (tw (tl (tw (tl (tw (tl (tl (tw (tw (me [sv 65 4] lf) lf) lf))) lf)) lf)) (tw (tl (tw (tl (tw (tl (tl (tw (me [sv 97 4] lf) lf))) lf)) lf)) lf))))) (jo:=fG FX) (n:=8) ⟨zx,Kg,zy,Q6,Kh,Q7,iS,AH,trivial⟩ (by kernel_rfl) (by kernel_rfl)
def zD:CX:= .c ⟨304,[3],[4],dM⟩
theorem Kj:OK zD:=B0 [] (tl (tw (me [sv 2 4] lf) lf)) trivial (by kernel_rfl) (by kernel_rfl)
def ou:CX:= .c ⟨246,[71],[4],iy⟩
theorem rZ:OK ou:=B0 [jg] lf ⟨nP,trivial⟩ (by kernel_rfl) (by kernel_rfl)
def x6:CX:= .c ⟨293,[164],[4],lR⟩
theorem I8:OK x6:=B0 [iR,ou] (tl (tl (tl (tw (tl (tw (tw (tl (me [sv 8 4] (tl (tl (me [sv 8 4] lf))))) (tw (tl (tw (me [sv 2 4] lf) lf)) (tl (tw (tl (tw (me [sv 2 4] lf) lf)) (tl (tw (tl (tw (me [sv 2 4] lf) lf)) lf)))))) lf)) lf)))) ⟨mw,rZ,trivial⟩ (by kernel_rfl) (by kernel_rfl)
def tY:CX:= .c ⟨229,[75],[4],iL⟩
theorem Ee:OK tY:=B0 [zD,x6,ou] (tl (tw (tw (me [sv 57 4] lf) lf) (tw (tl (tw (lo [sv 61 3] [2] lf) lf)) (tw (tl (tw (lo [sv 72 3] [] (tl (tl (tw (tw (tl (tw (me [sv 89 4] lf) lf)) lf) lf)))) lf)) lf)))) ⟨Kj,I8,rZ,trivial⟩ (by kernel_rfl) (by kernel_rfl)
def tZ:CX:= .c ⟨200,[63],[4],mU⟩
theorem Ef:OK tZ:=B0 [] lf trivial (by kernel_rfl) (by kernel_rfl)
def sR:CX:= .c ⟨199,[27],[262],i7⟩
theorem zE:OK sR:=B0 [] (tl (tl (tw (tl (tw (lo [(3, .own 63),sv 11 3] [] lf) lf)) (tw (tl (tw (lo [(3, .own 63),sv 28 3] [] lf) lf)) lf)))) trivial (by kernel_rfl) (by kernel_rfl)
def x7:CX:= .c ⟨110,[27],[4],lS⟩
def I9:List (Nat×Hint):=[(198,lf),(297, .mD {slots:=[sv 4 3]} (tl (tw (tl (tw (lo [sv 8 3] [4] lf) lf)) lf)))]
theorem I_:OK x7:=Og cK dI (l:=[tZ,sR]) (h:=(tl (tw (tw (me [sv 18 4] lf) lf) lf))) (jo:=fG I9) (n:=8) ⟨Ef,zE,trivial⟩ (by kernel_rfl) (by kernel_rfl)
def zF:CX:= .c ⟨111,[27],[4],nF⟩
theorem Kk:OK zF:=B0 [iR] (tl (tw (tl (tw (lo [sv 12 3] [2] lf) lf)) (tw (tl (tw (lo [sv 24 3] [] lf) lf)) (tw (tl (tw (lo [sv 36 3] [] lf) lf)) lf)))) ⟨mw,trivial⟩ (by kernel_rfl) (by kernel_rfl)
def vD:CX:= .c ⟨211,[3,3,3],[4],cT⟩
theorem AI:OK vD:=B0 [] (tl (tw (me [sv 6 4] lf) lf)) trivial (by kernel_rfl) (by kernel_rfl)
def vZ:CX:= .c ⟨299,[3],[4],jv⟩
theorem FZ:OK vZ:=B0 [vD] lf ⟨AI,trivial⟩ (by kernel_rfl) (by kernel_rfl)
def sS:CX:= .c ⟨212,[218],[4],fy⟩
def Kl:List (Nat×Hint):=[(298,lf),(348, .mD {slots:=[sv 4 3]} (tl (tw (tl (tw (lo [sv 8 3] [4] lf) lf)) lf)))]
theorem zG:OK sS:=Og cK dI (l:=[vZ]) (h:=lf) (jo:=fG Kl) (n:=8) ⟨FZ,trivial⟩ (by kernel_rfl) (by kernel_rfl)
def oN:CX:= .c ⟨210,[67],[4],fL⟩
theorem y9:OK oN:=B0 [vD,sS] (tl (tw (tw (me [sv 25 4] lf) lf) (tw (tl (tw (tw (me [sv 2 4] lf) lf) lf)) (tw (me [sv 2 4] lf) lf)))) ⟨AI,zG,trivial⟩ (by kernel_rfl) (by kernel_rfl)
def v7:CX:= .c ⟨115,[27],[4],jw⟩
theorem F0:OK v7:=B0 [vD,sS,oN] (tl (tw (tl (tw (lo [sv 12 3] [2] lf) lf)) (tw (tl (tw (lo [sv 23 3] [] (tl (tl (tw (tw (tl (tw (me [sv 51 4] lf) lf)) lf) lf)))) lf)) (tw (tl (tw (lo [sv 56 3] [] (tl (tl (tw (tw (tl (tw (me [sv 76 4] lf) lf)) lf) lf)))) lf)) lf)))) ⟨AI,zG,y9,trivial⟩ (by kernel_rfl) (by kernel_rfl)
def x8:CX:= .c ⟨209,[9],[9],iz⟩
theorem Ja:OK x8:=B0 [] lf trivial (by kernel_rfl) (by kernel_rfl)
def r_:CX:= .c ⟨207,[63],[4],gX⟩
def Cy:List (Nat×Hint):=[(208, .mD {slots:=[sv 4 4]} (tl (tw (tl (tw (lo [sv 5 3] [4] lf) lf)) lf)))]
theorem Cz:OK r_:=Og cK dI (l:=[x8]) (h:=lf) (jo:=fG Cy) (n:=8) ⟨Ja,trivial⟩ (by kernel_rfl) (by kernel_rfl)
def gA:CX:= .c ⟨204,[110],[9],b7⟩
theorem jS:OK gA:=B0 [] lf trivial (by kernel_rfl) (by kernel_rfl)
def v8:CX:= .c ⟨112,[27],[4],jx⟩
def F5:List (Nat×Hint):=[(202, .mD {slots:=[sv 4 4]} (tl (tw (tl (tw (lo [sv 5 3] [4] lf) lf)) lf))),(203, .mD {slots:=[sv 4 4]} (tl (tw (tl (tw (lo [sv 5 3] [4] lf) lf)) lf))),(205, .mD {slots:=[sv 4 4]} (tl (tw (tl (tw (lo [sv 5 3] [4] lf) lf)) lf))),(198,lf),(297, .mD {slots:=[sv 4 3]} (tl (tw (tl (tw (lo [sv 8 3] [4] lf) lf)) lf)))]
theorem F6:OK v8:=Og cK dI (l:=[sR,r_,iT,ew,gA]) (h:=(tl (tw (tw (me [sv 18 4] lf) lf) lf))) (jo:=fG F5) (n:=8) ⟨zE,Cz,nh,fW,jS,trivial⟩ (by kernel_rfl) (by kernel_rfl)
def qz:CX:= .c ⟨116,[27],[4],gw⟩
def AJ:List (Nat×Hint):=[(217,tl (.mD {slots:=[sv 7 4],boxes:=[(1000000,[.val 9, .val 3, .val 3, .val 3, .val 3, .val 3])]} (tw (tl (tw (.loop {slots:=[sv 13 3],boxes:=[(1000000,[.val 9, .val 3, .val 3, .val 3, .val 3, .val 3])],cw:=[7]} lf) lf)) lf))),(218,lf),(300,lf),(224, .mD {slots:=[sv 4 3]} (tl (tw (tl (tw (lo [sv 8 3] [4] lf) lf)) lf))),(301,lf),(216,tl (tw (me [sv 4 4] lf) lf)),(213,lf),(113,tl (.mD {slots:=[sv 7 4],boxes:=[(1000000,[.val 9, .val 4, .val 4, .val 3, .val 3, .val 3, .val 3, .val 3, .val 3, .val 3, .val 3, .val 3, .val 9, .val 3, .val 3, .val 3, .val 63, .val 63, .val 63])]} (tw (tl (tw (.loop {slots:=[sv 13 3],boxes:=[(1000000,[.val 9, .val 4, .val 4, .val 3, .val 3, .val 3, .val 3, .val 3, .val 3, .val 3, .val 3, .val 3, .val 9, .val 3, .val 3, .val 3, .val 63, .val 63, .val 63])],cw:=[7]} lf) lf)) lf))),(214,lf),(215,tl (.mD {slots:=[sv 7 4],boxes:=[(1000000,[.val 9, .val 63, .val 3, .val 3, .val 3, .val 9, .val 3, .val 3])]} (tw (tl (tw (.loop {slots:=[sv 13 3],boxes:=[(1000000,[.val 9, .val 63, .val 3, .val 3, .val 3, .val 9, .val 3, .val 3])],cw:=[7]} lf) lf)) lf)))]
theorem AK:OK qz:=Og cK dI (l:=[iT,ew,gA]) (h:=(tl (tl (tl (tl (tw (tl (tw (lo [sv 18 3] [2] (tl (tl (tw (tw (tl (tl (tw (me [sv 57 4] lf) lf))) lf) lf)))) lf)) (tw (tl (tw (lo [sv 62 3] [] (tl (tl (tw (tw (tl (tw (me [sv 77 4] lf) lf)) lf) lf)))) lf)) lf))))))) (jo:=fG AJ) (n:=8) ⟨nh,fW,jS,trivial⟩ (by kernel_rfl) (by kernel_rfl)
def mK:CX:= .c ⟨288,[63,9],[3],gS⟩
theorem wB:OK mK:=B0 [] (tl (tw (tl (tw (lo [sv 8 3] [4] lf) lf)) lf)) trivial (by kernel_rfl) (by kernel_rfl)
def jh:CX:= .c ⟨223,[63,9],[4],cQ⟩
theorem sU:OK jh:=B0 [mK] lf ⟨wB,trivial⟩ (by kernel_rfl) (by kernel_rfl)
def x9:CX:= .o ⟨118,[27],9,lT⟩
def Jb:List (Nat×Hint):=[(224, .mD {slots:=[sv 4 3]} (tl (tw (tl (tw (lo [sv 8 3] [4] lf) lf)) lf))),(225,tl (tw (me [sv 4 4] lf) lf)),(222,lf),(218,lf),(300,lf),(301,lf)]
theorem Jc:OK x9:=Q4 cK dI (hfl:=by kernel_rfl) (l:=[jh,oq]) (h:=(tl (tl (tl (tw (tl (tw (.loop {slots:=[(4, .own 9),sv 16 3],boxes:=[(3,[.M5 274])],cw:=[12]} lf) lf)) (tw (tl (tw (.loop {slots:=[(4, .own 9),sv 34 3],boxes:=[(3,[.M5 274])]} lf) lf)) (tl (tl (tl (tw (tl (.meet {slots:=[sv 54 3],boxes:=[(22,[.own 9])]} (tw (.loop {slots:=[sv 54 3],boxes:=[(22,[.own 9])]} lf) lf))) lf)))))))))) (jo:=fG Jb) (n:=8) ⟨sU,hsort,trivial⟩ (by kernel_rfl) (by kernel_rfl)
def zH:CX:= .c ⟨117,[27],[4],nG⟩
def Km:List (Nat×Hint):=[(218,lf),(300,lf),(224, .mD {slots:=[sv 4 3]} (tl (tw (tl (tw (lo [sv 8 3] [4] lf) lf)) lf))),(301,lf),(219,tl (tl (tw (me [sv 3 4] lf) lf))),(113,tl (.mD {slots:=[sv 7 4],boxes:=[(1000000,[.val 9, .val 4, .val 4, .val 3, .val 3, .val 3, .val 3, .val 3, .val 3, .val 3, .val 3, .val 3, .val 9, .val 3, .val 3, .val 3, .val 63, .val 63, .val 63])]} (tw (tl (tw (.loop {slots:=[sv 13 3],boxes:=[(1000000,[.val 9, .val 4, .val 4, .val 3, .val 3, .val 3, .val 3, .val 3, .val 3, .val 3, .val 3, .val 3, .val 9, .val 3, .val 3, .val 3, .val 63, .val 63, .val 63])],cw:=[7]} lf) lf)) lf))),(220,tl (tw (me [sv 4 4] (.any)) lf))]
theorem Kn:OK zH:=Og cK dI (l:=[ew]) (h:=(tl (tl (tw (tl (tw (lo [sv 13 3] [2] (tl (tl (tw (tw (tl (tl (tw (me [sv 40 4] lf) lf))) lf) lf)))) lf)) (tw (tl (tw (lo [sv 45 3] [] lf) lf)) lf))))) (jo:=fG Km) (n:=8) ⟨fW,trivial⟩ (by kernel_rfl) (by kernel_rfl)
def nj:CX:= .c ⟨35,[27],[40],fT⟩
def Eg:List (Nat×Hint):=[(113,tl (.mD {slots:=[sv 7 4],boxes:=[(1000000,[.val 9, .val 4, .val 4, .val 3, .val 3, .val 3, .val 3, .val 3, .val 3, .val 3, .val 3, .val 3, .val 9, .val 3, .val 3, .val 3, .val 63, .val 63, .val 63])]} (tw (tl (tw (.loop {slots:=[sv 13 3],boxes:=[(1000000,[.val 9, .val 4, .val 4, .val 3, .val 3, .val 3, .val 3, .val 3, .val 3, .val 3, .val 3, .val 3, .val 9, .val 3, .val 3, .val 3, .val 63, .val 63, .val 63])],cw:=[7]} lf) lf)) lf)))]
theorem t_:OK nj:=Og cK dI (l:=[x7,zF,v7,v8,qz,x9,zH,ew]) (h:=(tl (tl (tw (tl (tw (lo [sv 22 3] [2] lf) lf)) lf)))) (jo:=fG Eg) (n:=8) ⟨I_,Kk,F0,F6,AK,Jc,Kn,fW,trivial⟩ (by kernel_rfl) (by kernel_rfl)
def oO:CX:= .c ⟨122,[69],[4],fM⟩
theorem y_:OK oO:=B0 [] (tl (tw (tw (me [sv 30 4] lf) lf) (tw (me [sv 2 4] lf) lf))) trivial (by kernel_rfl) (by kernel_rfl)
def sj:CX:= .c ⟨121,[69],[4],lU⟩
theorem CA:OK sj:=B0 [oO] lf ⟨y_,trivial⟩ (by kernel_rfl) (by kernel_rfl)
def oH:CX:= .c ⟨36,[30],[4],gF⟩
def F7:List (Nat×Hint):=[(120,lf),(227, .mD {slots:=[sv 4 3]} (tl (tw (tl (tw (lo [sv 8 3] [4] lf) lf)) lf)))]
theorem v_:OK oH:=Og cK dI (l:=[sj,ni]) (h:=(tl (tw (me [sv 2 4] lf) lf))) (jo:=fG F7) (n:=8) ⟨CA,tW,trivial⟩ (by kernel_rfl) (by kernel_rfl)
def x_:CX:= .c ⟨125,[37],[4],lV⟩
theorem Jd:OK x_:=B0 [tY,nj,oH] (tl (tw (tw (me [sv 25 4] lf) lf) (tl (tw (tl (tw (lo [sv 3 3,sv 29 3] [2] (tl (tl (tw (tw (tl (tw (tw (me [sv 48 4] lf) lf) lf)) lf) lf)))) lf)) lf)))) ⟨Ee,t_,v_,trivial⟩ (by kernel_rfl) (by kernel_rfl)
def sn:CX:= .c ⟨38,[37],[40],gY⟩
theorem CE:OK sn:=B0 [oM,xY,vY,x_] (tl (tl (tw (tl (tw (lo [sv 17 3] [2] lf) lf)) lf))) ⟨y8,I6,FY,Jd,trivial⟩ (by kernel_rfl) (by kernel_rfl)
def ya:CX:= .c ⟨131,[27,9],[110,4],lW⟩
def Je:List (Nat×Hint):=[(217,tl (.mD {slots:=[sv 7 4],boxes:=[(1000000,[.val 9, .val 3, .val 3, .val 3, .val 3, .val 3])]} (tw (tl (tw (.loop {slots:=[sv 13 3],boxes:=[(1000000,[.val 9, .val 3, .val 3, .val 3, .val 3, .val 3])],cw:=[7]} lf) lf)) lf)))]
theorem Jf:OK ya:=Og cK dI (l:=[gA]) (h:=lf) (jo:=fG Je) (n:=8) ⟨jS,trivial⟩ (by kernel_rfl) (by kernel_rfl)
def zI:CX:= .c ⟨129,[88],[4],nH⟩
theorem Ko:OK zI:=B0 [iR,ou] (tl (tw (me [sv 2 4] lf) lf)) ⟨mw,rZ,trivial⟩ (by kernel_rfl) (by kernel_rfl)
def mL:CX:= .c ⟨4,[37],[4],eL⟩
theorem wC:OK mL:=B0 [] (tl (tw (tl (tw (lo [sv 8 3] [2] (tl (tl (tw (tw (tl (tw (me [sv 28 4] lf) lf)) lf) lf)))) lf)) (tw (tl (tw (lo [sv 33 3] [] (tl (tl (tw (tw (tl (tw (me [sv 65 4] lf) lf)) lf) lf)))) lf)) (tw (tw (me [sv 85 4] lf) lf) (tw (me [sv 2 4] lf) lf))))) trivial (by kernel_rfl) (by kernel_rfl)
def Fe:CX:= .c ⟨145,[3,3],[4],rF⟩
theorem Q8:OK Fe:=B0 [] (tl (tw (me [sv 4 4] lf) lf)) trivial (by kernel_rfl) (by kernel_rfl)
def vE:CX:= .c ⟨52,[30],[4],lX⟩
theorem CH:OK vE:=B0 [Fe] (tl (tw (me [sv 2 4] lf) lf)) ⟨Q8,trivial⟩ (by kernel_rfl) (by kernel_rfl)
def wg:CX:= .c ⟨53,[69],[4],jy⟩
theorem F8:OK wg:=B0 [] (tl (tw (tw (me [sv 30 4] lf) lf) (tw (me [sv 2 4] lf) lf))) trivial (by kernel_rfl) (by kernel_rfl)
def yc:CX:= .c ⟨15,[30],[4],n_⟩
theorem Ff:OK yc:=B0 [vE,wg] (tl (tl (tw (tl (tw (lo [sv 3 3] [2] lf) lf)) lf))) ⟨CH,F8,trivial⟩ (by kernel_rfl) (by kernel_rfl)
def uc:CX:= .c ⟨47,[63,9],[4],kU⟩
theorem yV:OK uc:=B0 [] (tl (tw (tl (tw (lo [sv 5 3] [4] lf) lf)) lf)) trivial (by kernel_rfl) (by kernel_rfl)
def k_:CX:= .o ⟨46,[27],9,fZ⟩
theorem ow:OK k_:=Q4 cK dI (hfl:=by kernel_rfl) (l:=[]) (h:=(tl (tl (tw (tl (tw (lo [(3, .own 9),sv 4 3] [] lf) lf)) lf)))) (jo:=fG []) (n:=0) trivial (by kernel_rfl) (by kernel_rfl)
def ox:CX:= .o ⟨135,[27],9,iA⟩
theorem sq:OK ox:=Q4 cK dI (hfl:=by kernel_rfl) (l:=[]) (h:=(tl (tl (tw (tl (tw (lo [(3, .own 9),sv 4 3] [] lf) lf)) lf)))) (jo:=fG []) (n:=0) trivial (by kernel_rfl) (by kernel_rfl)
def nQ:CX:= .o ⟨136,[27],9,gM⟩
theorem sV:OK nQ:=Q4 cK dI (hfl:=by kernel_rfl) (l:=[]) (h:=(tl (tl (tw (tl (tw (lo [(3, .own 9),sv 4 3] [] lf) lf)) lf)))) (jo:=fG []) (n:=0) trivial (by kernel_rfl) (by kernel_rfl)
def Eh:CX:= .c ⟨142,[63,63],[4],kV⟩
theorem LS:OK Eh:=B0 [uc] (tl (tw (tl (tw (lo [sv 5 3] [4] lf) lf)) lf)) ⟨yV,trivial⟩ (by kernel_rfl) (by kernel_rfl)
def Fg:CX:= .c ⟨49,[27],[4],rG⟩
theorem Q9:OK Fg:=B0 [uc,k_,ox,nQ,Eh] (tl (tl (tl (tw (tl (tw (lo [sv 7 3] [2] (tl (tw (tw (tl (tw (me [sv 63 4] lf) lf)) lf) lf))) lf)) (tw (tl (tw (lo [sv 9 3] [] (tl (tw (tw (tw (me [sv 90 4] lf) lf) lf) lf))) lf)) lf))))) ⟨yV,ow,sq,sV,LS,trivial⟩ (by kernel_rfl) (by kernel_rfl)
def CI:CX:= .c ⟨43,[27],[4],pe⟩
theorem NV:OK CI:=B0 [] (tl (tw (tw (me [sv 21 4] lf) lf) (tw (tl (tw (lo [sv 3 3] [2] (tl (tw (tw (tl (tw (me [sv 49 4] lf) lf)) lf) lf))) lf)) (tw (tl (tw (lo [sv 5 3] [] lf) lf)) lf)))) trivial (by kernel_rfl) (by kernel_rfl)
def nk:CX:= .c ⟨137,[9],[4],iB⟩
theorem qA:OK nk:=B0 [] (tl (tw (tw (me [sv 22 4] lf) lf) (tw (tl (tw (lo [sv 3 3] [2] (tl (tw (tw (tl (tw (me [sv 51 4] lf) lf)) lf) lf))) lf)) lf))) trivial (by kernel_rfl) (by kernel_rfl)
def Fh:CX:= .c ⟨44,[27],[4],rH⟩
theorem Q_:OK Fh:=B0 [nk,k_,ox,nQ] (tl (tl (tw (tl (tw (lo [sv 4 3] [2] lf) lf)) lf))) ⟨qA,ow,sq,sV,trivial⟩ (by kernel_rfl) (by kernel_rfl)
def pM:CX:= .c ⟨140,[3,3,3],[4],b8⟩
theorem vF:OK pM:=B0 [] (tl (tw (me [sv 6 4] lf) lf)) trivial (by kernel_rfl) (by kernel_rfl)
def AL:CX:= .c ⟨141,[3],[4],dm⟩
theorem Jg:OK AL:=B0 [pM] lf ⟨vF,trivial⟩ (by kernel_rfl) (by kernel_rfl)
def CJ:CX:= .c ⟨139,[67],[4],pg⟩
theorem NW:OK CJ:=B0 [AL,pM] (tl (tw (tw (me [sv 36 4] lf) lf) (tw (tl (tw (tw (me [sv 2 4] lf) lf) lf)) (tw (me [sv 2 4] lf) lf)))) ⟨Jg,vF,trivial⟩ (by kernel_rfl) (by kernel_rfl)
def zJ:CX:= .c ⟨48,[27],[4],nI⟩
theorem Kp:OK zJ:=B0 [CJ,AL,pM] (tl (tl (tw (tl (tw (lo [sv 3 4,sv 4 3] [] (tl (tw (tw (me [sv 3 4] lf) lf) lf))) lf)) (tw (tl (tw (lo [sv 3 4,sv 5 3] [] (tl (tw (tw (tl (me [sv 3 4] lf)) lf) lf))) lf)) (tw (tl (tw (lo [sv 3 4,sv 7 3] [] (tl (tw (tw (tl (me [sv 3 4] lf)) lf) lf))) lf)) lf))))) ⟨NW,Jg,vF,trivial⟩ (by kernel_rfl) (by kernel_rfl)
def wj:CX:= .c ⟨138,[63],[4],cB⟩
theorem F9:OK wj:=B0 [] (tl (tw (tl (tw (lo [sv 3 3] [2] lf) lf)) lf)) trivial (by kernel_rfl) (by kernel_rfl)
def zK:CX:= .c ⟨45,[27],[4],nJ⟩
theorem Kq:OK zK:=B0 [k_,ox,nQ,wj] (tl (tw (me [sv 3 4] lf) (tw (tl (tw (lo [sv 3 4,sv 4 3] [] (tl (tw (tw (tl (me [sv 3 4] lf)) lf) lf))) lf)) (tw (tl (tw (lo [sv 3 4,sv 6 3] [] (tl (tw (tw (me [sv 3 4] lf) lf) lf))) lf)) lf)))) ⟨ow,sq,sV,F9,trivial⟩ (by kernel_rfl) (by kernel_rfl)
def vG:CX:= .c ⟨54,[27,9],[99,4],mV⟩
theorem AM:OK vG:=B0 [] (tl (tw (tl (tw (.loop {slots:=[sv 6 3],boxes:=[(1,[.val 9, .val 63, .val 3, .val 3, .val 3, .val 9, .val 3, .val 3])],cw:=[5]} lf) lf)) lf)) trivial (by kernel_rfl) (by kernel_rfl)
def fE:CX:= .c ⟨64,[27,9],[67,4],dG⟩
theorem gB:OK fE:=B0 [] (tl (tw (tl (tw (.loop {slots:=[sv 6 3],boxes:=[(1,[.val 9, .val 4, .val 4, .val 3, .val 3, .val 3, .val 3, .val 3, .val 3, .val 3, .val 3, .val 3, .val 9, .val 3, .val 3, .val 3, .val 63, .val 63, .val 63])],cw:=[5]} lf) lf)) lf)) trivial (by kernel_rfl) (by kernel_rfl)
def Fi:CX:= .c ⟨144,[27,9],[63],rI⟩
theorem Ra:OK Fi:=B0 [vG,fE] lf ⟨AM,gB,trivial⟩ (by kernel_rfl) (by kernel_rfl)
def yd:CX:= .o ⟨51,[27],9,lY⟩
theorem Jh:OK yd:=Q4 cK dI (hfl:=by kernel_rfl) (l:=[uc,Fi,k_,ox,Eh]) (h:=(tl (tl (tl (tw (lo [(4, .own 9)] [2] (tw (tl (tw (tl (tw (lo [sv 5 9,sv 6 3] [] (tl (tw (tw (tw (me [sv 46 4] lf) (me [sv 5 9] lf)) lf) lf))) lf)) lf)) lf)) lf))))) (jo:=fG []) (n:=0) ⟨yV,Ra,ow,sq,LS,trivial⟩ (by kernel_rfl) (by kernel_rfl)
def CM:CX:= .c ⟨143,[27,63],[4],lZ⟩
theorem NX:OK CM:=B0 [fE] (tl (tw (tl (tw (lo [sv 5 3] [4] (tl (tw (tw (tl (tw (me [sv 28 4] lf) lf)) lf) lf))) lf)) lf)) ⟨gB,trivial⟩ (by kernel_rfl) (by kernel_rfl)
def Fj:CX:= .c ⟨50,[27],[4],rJ⟩
theorem Rb:OK Fj:=B0 [fE,CM] (tl (tw (tl (tw (lo [sv 3 3] [2] (tl (tw (tw (tl (tw (tw (me [sv 36 4] lf) lf) (tl (tw (lo [sv 5 3] [] lf) lf)))) lf) lf))) lf)) (tw (tl (tw (lo [sv 8 3] [] lf) lf)) lf))) ⟨gB,NX,trivial⟩ (by kernel_rfl) (by kernel_rfl)
def qB:CX:= .c ⟨14,[27],[40],iC⟩
theorem yf:OK qB:=B0 [uc,k_,Fg,CI,Fh,zJ,zK,yd,Fj] (tl (tl (tl (tw (tl (tw (lo [sv 4 3] [2] lf) lf)) lf)))) ⟨yV,ow,Q9,NV,Q_,Kp,Kq,Jh,Rb,trivial⟩ (by kernel_rfl) (by kernel_rfl)
def Fk:CX:= .c ⟨264,[3,3,3],[3],rK⟩
theorem Re:OK Fk:=B0 [] lf trivial (by kernel_rfl) (by kernel_rfl)
def Ji:CX:= .c ⟨266,[3],[3],ql⟩
theorem S8:OK Ji:=B0 [] lf trivial (by kernel_rfl) (by kernel_rfl)
def nR:CX:= .c ⟨157,[71],[71],dN⟩
theorem sW:OK nR:=B0 [Ji] lf ⟨S8,trivial⟩ (by kernel_rfl) (by kernel_rfl)
def LU:CX:= .c ⟨331,[71,71],[3],DW⟩
theorem Wz:OK LU:=B0 [nR] lf ⟨sW,trivial⟩ (by kernel_rfl) (by kernel_rfl)
def Jj:CX:= .c ⟨265,[71],[3],vk⟩
theorem S9:OK Jj:=B0 [LU] lf ⟨Wz,trivial⟩ (by kernel_rfl) (by kernel_rfl)
def Ei:CX:= .c ⟨257,[71,71],[71],tL⟩
theorem LV:OK Ei:=B0 [nR] lf ⟨sW,trivial⟩ (by kernel_rfl) (by kernel_rfl)
def zL:CX:= .c ⟨155,[207,207],[4],nK⟩
theorem Kr:OK zL:=B0 [Fk,Jj,Ei] lf ⟨Re,S9,LV,trivial⟩ (by kernel_rfl) (by kernel_rfl)
def wk:CX:= .c ⟨59,[104],[4],jz⟩
theorem F_:OK wk:=B0 [zL] (tl (tw (tl (tw (lo [sv 3 3] [2] (tl (tw (tw (tl (tw (lo [sv 4 3] [] lf) lf)) lf) lf))) lf)) lf)) ⟨Kr,trivial⟩ (by kernel_rfl) (by kernel_rfl)
def Jk:CX:= .c ⟨156,[27,75],[207,4],vl⟩
theorem S_:OK Jk:=B0 [fE] (tl (tl (tw (tw (me [sv 20 4] lf) lf) lf))) ⟨gB,trivial⟩ (by kernel_rfl) (by kernel_rfl)
def CN:CX:= .o ⟨60,[27,32],207,pz⟩
theorem NY:OK CN:=Q4 cK dI (hfl:=by kernel_rfl) (l:=[Jk]) (h:=(tl (tl (tw (tl (tw (lo [(5, .own 207),sv 6 3] [] (tl (tw (tw (tl (tl (me [(5, .own 207)] lf))) lf) lf))) lf)) lf)))) (jo:=fG []) (n:=0) ⟨S_,trivial⟩ (by kernel_rfl) (by kernel_rfl)
def oy:CX:= .c ⟨65,[71],[4],f_⟩
theorem sr:OK oy:=B0 [nR] lf ⟨sW,trivial⟩ (by kernel_rfl) (by kernel_rfl)
def Fl:CX:= .c ⟨256,[164],[4],rL⟩
theorem Rf:OK Fl:=B0 [oy,nk] (tl (tl (tl (tw (tl (tw (tw (tl (me [sv 14 4] (tl (tl (me [sv 14 4] lf))))) (tw (tw (me [sv 2 4] lf) lf) (tl (tw (tw (me [sv 2 4] lf) lf) (tl (tw (tw (me [sv 2 4] lf) lf) (tl (tw (tw (me [sv 2 4] lf) lf) lf)))))))) lf)) lf)))) ⟨sr,qA,trivial⟩ (by kernel_rfl) (by kernel_rfl)
def Jl:CX:= .c ⟨255,[3],[4],gx⟩
theorem Ta:OK Jl:=B0 [] (tl (tw (me [sv 2 4] lf) lf)) trivial (by kernel_rfl) (by kernel_rfl)
def zM:CX:= .c ⟨146,[75],[4],nL⟩
theorem Ks:OK zM:=B0 [oy,Fl,Jl] (tl (tw (tw (me [sv 56 4] lf) lf) (tw (tl (tw (lo [sv 3 3] [2] lf) lf)) (tw (tl (tw (lo [sv 4 3] [] (tl (tw (tw (tl (tw (me [sv 96 4] lf) lf)) lf) lf))) lf)) lf)))) ⟨sr,Rf,Ta,trivial⟩ (by kernel_rfl) (by kernel_rfl)
def CQ:CX:= .c ⟨55,[37],[4],pE⟩
theorem NZ:OK CQ:=B0 [yc,qB,zM] (tl (tw (tw (me [sv 25 4] lf) lf) (tl (tw (tl (tw (lo [sv 3 3,sv 4 3] [2] (tl (tw (tw (tl (tw (tw (me [sv 53 4] lf) lf) lf)) lf) lf))) lf)) lf)))) ⟨Ff,yf,Ks,trivial⟩ (by kernel_rfl) (by kernel_rfl)
def CT:CX:= .c ⟨147,[37,3],[4],pF⟩
theorem N0:OK CT:=B0 [] (tl (tw (tl (tw (lo [sv 5 3] [4] lf) lf)) lf)) trivial (by kernel_rfl) (by kernel_rfl)
def Fm:CX:= .c ⟨56,[37,75],[4],rM⟩
theorem Rg:OK Fm:=B0 [vG,fE,CT] (tl (tl (tw (tw (me [sv 29 4] lf) lf) (tw (tl (tw (lo [sv 7 3] [4] (tl (tw (tw (tl (tl (tl (tw (me [sv 77 4] lf) lf)))) lf) lf))) lf)) lf)))) ⟨AM,gB,N0,trivial⟩ (by kernel_rfl) (by kernel_rfl)
def vH:CX:= .c ⟨330,[3],[3],gy⟩
theorem AN:OK vH:=B0 [] lf trivial (by kernel_rfl) (by kernel_rfl)
def Ej:CX:= .c ⟨263,[201],[201],yM⟩
theorem LW:OK Ej:=B0 [vH] lf ⟨AN,trivial⟩ (by kernel_rfl) (by kernel_rfl)
def vI:CX:= .c ⟨262,[196],[196],jP⟩
theorem AP:OK vI:=B0 [vH] lf ⟨AN,trivial⟩ (by kernel_rfl) (by kernel_rfl)
def CU:CX:= .c ⟨153,[196,201],[4],l5⟩
theorem N1:OK CU:=B0 [Ej,vI] (tl (tl (tw (me [sv 4 4] lf) lf))) ⟨LW,AP,trivial⟩ (by kernel_rfl) (by kernel_rfl)
def vJ:CX:= .c ⟨261,[196,196],[196],l6⟩
theorem CW:OK vJ:=B0 [] (tl (tw (tw (me [sv 26 4] lf) lf) (tl (tl (tw (tw (me [sv 69 4] lf) lf) lf))))) trivial (by kernel_rfl) (by kernel_rfl)
def Jm:CX:= .c ⟨152,[196,196],[4],vm⟩
theorem Tb:OK Jm:=B0 [vJ,vI] lf ⟨CW,AP,trivial⟩ (by kernel_rfl) (by kernel_rfl)
def Fo:CX:= .c ⟨328,[3,201],[3],xE⟩
theorem Rh:OK Fo:=B0 [vH,Ej] lf ⟨AN,LW,trivial⟩ (by kernel_rfl) (by kernel_rfl)
def Ri:CX:= .c ⟨372,[3,3,201],[4],B5⟩
theorem Zw:OK Ri:=B0 [] (tl (tw (me [sv 6 4] lf) lf)) trivial (by kernel_rfl) (by kernel_rfl)
def CY:CX:= .c ⟨327,[30,201],[4],pG⟩
theorem N2:OK CY:=B0 [Ri,vE] (tl (tw (me [sv 4 4] lf) lf)) ⟨Zw,CH,trivial⟩ (by kernel_rfl) (by kernel_rfl)
def LX:CX:= .c ⟨259,[30,201],[69,4],yN⟩
theorem WA:OK LX:=B0 [Fo,CY] lf ⟨Rh,N2,trivial⟩ (by kernel_rfl) (by kernel_rfl)
def yg:CX:= .c ⟨150,[30,3,201],[4],l7⟩
theorem Jn:OK yg:=B0 [LX] (tl (tl (tw (tl (tw (tl (tw (tw (me [sv 6 4] lf) lf) (tl (tw (tw (me [sv 6 4] lf) lf) lf)))) lf)) lf))) ⟨WA,trivial⟩ (by kernel_rfl) (by kernel_rfl)
def LY:CX:= .c ⟨329,[3,3],[3,40],DX⟩
theorem WB:OK LY:=B0 [] (tl (tl (tw (tw (me [sv 15 4] lf) lf) (tl (tw (tw (me [sv 30 4] lf) (me [sv 6 3] lf)) lf))))) trivial (by kernel_rfl) (by kernel_rfl)
def Jo:CX:= .c ⟨260,[3],[3],qm⟩
theorem Tc:OK Jo:=B0 [LY] lf ⟨WB,trivial⟩ (by kernel_rfl) (by kernel_rfl)
def AQ:CX:= .c ⟨151,[71],[201],qn⟩
theorem Jp:OK AQ:=B0 [Jo] lf ⟨Tc,trivial⟩ (by kernel_rfl) (by kernel_rfl)
def Jq:CX:= .c ⟨148,[27,75],[196,4],qo⟩
theorem Td:OK Jq:=B0 [Ei,fE,AQ] (tl (tl (tw (tw (me [sv 42 4] lf) lf) lf))) ⟨LV,gB,Jp,trivial⟩ (by kernel_rfl) (by kernel_rfl)
def Jr:CX:= .c ⟨258,[3,3,196],[196],vn⟩
theorem Te:OK Jr:=B0 [vJ,vI] lf ⟨CW,AP,trivial⟩ (by kernel_rfl) (by kernel_rfl)
def Fp:CX:= .c ⟨149,[37,75,196],[4],rN⟩
theorem Rj:OK Fp:=B0 [Jr] (tl (tl (tw (me [sv 6 4] lf) lf))) ⟨Te,trivial⟩ (by kernel_rfl) (by kernel_rfl)
def CZ:CX:= .c ⟨57,[37,75],[4],pH⟩
theorem N3:OK CZ:=B0 [CU,Jm,yg,fE,AQ,Jq,Fp] (tl (tl (tw (tw (me [sv 26 4] lf) lf) (tl (tw (tw (me [sv 47 4] lf) lf) (tw (tl (tw (lo [sv 9 3] [4] (tl (tw (.meet {} (tw (tl (tw (tw (me [sv 78 4] lf) lf) (tw (me [sv 100 4] lf) lf))) lf)) lf))) lf)) lf)))))) ⟨N1,Tb,Jn,gB,Jp,Td,Rj,trivial⟩ (by kernel_rfl) (by kernel_rfl)
def Fq:CX:= .c ⟨154,[75],[4],xF⟩
theorem Rk:OK Fq:=B0 [] lf trivial (by kernel_rfl) (by kernel_rfl)
def C0:CX:= .c ⟨58,[37,75],[4],pI⟩
theorem N4:OK C0:=B0 [fE,Fq] (tl (tl (tw (tl (tw (tw (me [sv 4 4] lf) lf) lf)) (tw (me [sv 4 4] lf) lf)))) ⟨gB,Rk,trivial⟩ (by kernel_rfl) (by kernel_rfl)
def yh:CX:= .c ⟨17,[37],[40],l8⟩
theorem Js:OK yh:=B0 [wk,CN,CQ,Fm,CZ,C0] (tl (tl (tl (tw (tl (tw (lo [sv 3 3] [2] lf) lf)) (tw (tl (tw (lo [sv 4 3] [] lf) lf)) (tw (tl (tw (lo [sv 5 3] [] lf) lf)) lf)))))) ⟨F_,NY,NZ,Rg,N3,N4,trivial⟩ (by kernel_rfl) (by kernel_rfl)
def pN:CX:= .c ⟨62,[37,3],[65,4],iM⟩
theorem vK:OK pN:=B0 [] (tl (tw (tl (tw (.loop {slots:=[sv 6 3],boxes:=[(1,[.val 3, .val 3, .val 3, .val 3, .val 63, .val 4])],cw:=[5]} lf) lf)) lf)) trivial (by kernel_rfl) (by kernel_rfl)
def yj:CX:= .c ⟨19,[37],[4],l9⟩
theorem Jt:OK yj:=B0 [oy,fE,pN] (tl (tl (tw (tl (tw (lo [sv 3 3] [2] (tl (tw (tw (tl (tw (tw (me [sv 51 4] lf) lf) (tl (tw (lo [sv 5 3] [] (tl (tw (tw (tl (tl (tl (tw (tw (me [sv 117 4] lf) lf) (tw (me [sv 131 4] lf) lf))))) lf) lf))) lf)))) lf) lf))) lf)) lf))) ⟨sr,gB,vK,trivial⟩ (by kernel_rfl) (by kernel_rfl)
def zN:CX:= .c ⟨16,[37],[40],nM⟩
theorem Ku:OK zN:=B0 [vG] (tl (tw (tw (me [sv 18 4] lf) lf) (tw (tl (tw (lo [sv 3 3] [2] (tl (tw (tw (tl (tw (tw (me [sv 68 4] lf) lf) (tw (tw (me [sv 82 4] lf) lf) (tw (tl (tw (lo [sv 5 3] [] lf) lf)) (tl (tw (lo [sv 6 3] [] lf) lf)))))) lf) lf))) lf)) lf))) ⟨AM,trivial⟩ (by kernel_rfl) (by kernel_rfl)
def AR:CX:= .c ⟨332,[4,3],[3,4,4],eE⟩
theorem Ju:OK AR:=B0 [] (tl (tl (tw (me [sv 8 4] lf) (tl (tw (tl (me [(7, .own 3),sv 8 4,sv 9 3] (tw (tl (tw (me [sv 8 4] lf) lf)) lf))) (tw (tw (me [sv 48 4] lf) lf) lf)))))) trivial (by kernel_rfl) (by kernel_rfl)
def C1:CX:= .c ⟨268,[177],[3,3],pJ⟩
theorem N5:OK C1:=B0 [AR] (tl (tw (tl (tw (tw (tl (me [sv 12 4] lf)) (tl (tw (tl (me [sv 15 4] (tl (tl (me [sv 15 4] lf))))) (tl (tl (tw (tw (tw (me [sv 28 4] lf) lf) lf) lf)))))) lf)) lf)) ⟨Ju,trivial⟩ (by kernel_rfl) (by kernel_rfl)
def Ft:CX:= .c ⟨333,[49,9],[4],rO⟩
theorem Rl:OK Ft:=B0 [] (tl (tw (tl (tw (lo [sv 5 3] [4] lf) lf)) lf)) trivial (by kernel_rfl) (by kernel_rfl)
def Jv:CX:= .c ⟨267,[49,177,3,3,3],[4],qp⟩
theorem Tf:OK Jv:=B0 [nk,AR,Ft] (tl (tw (tw (me [sv 41 4] lf) lf) (tw (tl (tw (tw (tl (me [sv 44 4] (tl (tl (me [sv 44 4] lf))))) (tl (tw (tl (me [sv 51 4] lf)) (tw (tw (me [sv 10 4] lf) lf) (tl (tw (tw (me [sv 10 4] lf) lf) (tw (tl (me [sv 73 4] lf)) (tw (tw (me [sv 10 4] lf) lf) (tw (tl (me [sv 86 4] lf)) (tw (tl (tw (me [sv 10 4] lf) lf)) (tl (tw (tw (me [sv 10 4] lf) lf) lf)))))))))))) lf)) lf))) ⟨qA,Ju,Rl,trivial⟩ (by kernel_rfl) (by kernel_rfl)
def wm:CX:= .c ⟨269,[3],[4],jA⟩
theorem Ga:OK wm:=B0 [] (tl (tw (me [sv 2 4] lf) lf)) trivial (by kernel_rfl) (by kernel_rfl)
def zO:CX:= .c ⟨158,[49,3,3,3],[4],nN⟩
theorem Kv:OK zO:=B0 [C1,Jv,wm] (tl (tl (tl (tw (tl (tw (lo [(10, .own 3),sv 9 3,sv 11 3] [8] (tl (tw (tw (tl (tl (tl (tl (tl (tl (tw (me [sv 62 4] lf) lf))))))) lf) lf))) lf)) (tw (tl (tw (lo [sv 15 3] [] (tl (tw (tw (tl (tw (me [sv 91 4] lf) lf)) lf) lf))) lf)) lf))))) ⟨N5,Tf,Ga,trivial⟩ (by kernel_rfl) (by kernel_rfl)
def qC:CX:= .c ⟨66,[49],[40],iD⟩
theorem yl:OK qC:=B0 [nk,zO] (tl (tl (tw (tw (me [sv 31 4] lf) lf) (tw (tl (tw (lo [sv 4 3] [2] lf) lf)) (tw (tl (tw (lo [sv 5 3] [] (tl (tw (tw (tl (tw (lo [sv 6 3] [] lf) lf)) lf) lf))) lf)) (tw (tl (tw (lo [sv 7 3] [] (tl (tw (tw (tl (tw (me [sv 118 4] lf) lf)) lf) lf))) lf)) (tw (tl (tw (lo [sv 9 3] [] (tl (tw (tw (tl (tw (tl (me [sv 10 3] lf)) lf)) lf) lf))) lf)) lf))))))) ⟨qA,Kv,trivial⟩ (by kernel_rfl) (by kernel_rfl)
def Fu:CX:= .c ⟨334,[3],[3,4,4],oa⟩
theorem Rm:OK Fu:=B0 [] (tl (tw (tl (tw (tw (tl (me [sv 6 4] (tl (tl (me [sv 6 4] lf))))) (tl (tw (tl (me [sv 10 4] lf)) (tl (tl (tl (tw (tl (me [sv 15 4] (tl (tl (me [sv 15 4] (tl (tl (me [sv 15 4] (tl (tl (me [sv 15 4] lf))))))))))) (tl (tw (tl (me [sv 21 4] lf)) (tl (tl (tl (tl (tl (tw (tl (me [sv 28 4] lf)) lf))))))))))))))) lf)) lf)) trivial (by kernel_rfl) (by kernel_rfl)
def C2:CX:= .c ⟨270,[177],[3],l_⟩
theorem N6:OK C2:=B0 [Fu] (tl (tl (tw (tl (tw (tw (tl (me [sv 15 4] lf)) (tl (tw (tl (me [sv 18 4] (tl (tl (me [sv 18 4] lf))))) (tl (tl (.meet {cw:=[2]} (tw (tw (me [sv 31 4] lf) lf) lf))))))) lf)) lf))) ⟨Rm,trivial⟩ (by kernel_rfl) (by kernel_rfl)
def ym:CX:= .c ⟨159,[49,3],[174],oc⟩
theorem Fv:OK ym:=B0 [] (tl (tl (tw (tl (tw (.loop {slots:=[sv 6 3],boxes:=[(2,[.val 9, .val 3, .val 3])]} (tl (tw (tw (tl (.meet {boxes:=[(2,[.val 9, .val 3, .val 3])]} lf)) lf) lf))) lf)) lf))) trivial (by kernel_rfl) (by kernel_rfl)
def Fw:CX:= .c ⟨160,[49,3],[3],xG⟩
theorem Rn:OK Fw:=B0 [C2,ym] (tl (tl (tw (tl (tw (lo [sv 5 3,sv 6 3] [] lf) lf)) lf))) ⟨N6,Fv,trivial⟩ (by kernel_rfl) (by kernel_rfl)
def Fx:CX:= .c ⟨67,[49,121],[4],rP⟩
theorem Ro:OK Fx:=B0 [qC,Fw,ym] (tl (tw (tw (me [sv 21 4] lf) lf) (tw (me [sv 5 4] lf) (tw (tl (tw (tl (tw (tw (me [sv 4 4] lf) lf) (tl (tw (tw (me [sv 4 4] lf) lf) (tw (tl (me [sv 64 4] lf)) (tw (tw (me [sv 4 4] lf) lf) lf)))))) lf)) lf)))) ⟨yl,Rn,Fv,trivial⟩ (by kernel_rfl) (by kernel_rfl)
def zQ:CX:= .c ⟨20,[37],[40],nO⟩
theorem Kw:OK zQ:=B0 [pN,qC,Fx] (tl (tw (tl (tw (lo [sv 3 3] [2] (tl (tw (tw (tl (tl (tl (tw (tw (me [sv 44 4] lf) lf) (tl (tl (tl (tw (lo [sv 8 3] [] (tl (tw (tw (tl (tw (me [sv 81 4] lf) lf)) lf) lf))) lf)))))))) lf) lf))) lf)) lf)) ⟨vK,yl,Ro,trivial⟩ (by kernel_rfl) (by kernel_rfl)
def C3:CX:= .c ⟨63,[27,9],[110,4],pK⟩
theorem N7:OK C3:=B0 [] (tl (tw (tl (tw (.loop {slots:=[sv 6 3],boxes:=[(1,[.val 9, .val 3, .val 3, .val 3, .val 3, .val 3])],cw:=[5]} lf) lf)) lf)) trivial (by kernel_rfl) (by kernel_rfl)
def Fy:CX:= .c ⟨61,[88],[4],rQ⟩
theorem Rp:OK Fy:=B0 [oy,nk] (tl (tw (tw (me [sv 30 4] lf) lf) (tw (me [sv 2 4] lf) lf))) ⟨sr,qA,trivial⟩ (by kernel_rfl) (by kernel_rfl)
def Fz:CX:= .c ⟨18,[37],[40],rR⟩
theorem Rq:OK Fz:=B0 [C3,pN,Fy] (tl (tl (tw (tl (tw (lo [sv 3 3] [2] (tl (tw (tw (tl (tl (tl (tl (tw (me [sv 48 4] lf) lf))))) lf) lf))) lf)) lf))) ⟨N7,vK,Rp,trivial⟩ (by kernel_rfl) (by kernel_rfl)
def yp:CX:= .c ⟨7,[37],[40],mg⟩
theorem Jw:OK yp:=B0 [yc,qB,yh,yj,zN,zQ,Fz] (tl (tl (tl (tl (tl (tl (tl (tl (tw (me [sv 8 4] lf) (tw (tl (tw (lo [sv 8 4,sv 9 3] [] (tl (tw (tw (me [sv 8 4] lf) lf) lf))) lf)) (tw (tw (me [sv 91 4] lf) lf) lf))))))))))) ⟨Ff,yf,Js,Jt,Ku,Kw,Rq,trivial⟩ (by kernel_rfl) (by kernel_rfl)
def mz:CX:= .c ⟨123,[3,3,3],[4],cA⟩
theorem qD:OK mz:=B0 [] (tl (tw (me [sv 6 4] lf) lf)) trivial (by kernel_rfl) (by kernel_rfl)
def ud:CX:= .c ⟨42,[37],[40],iN⟩
theorem Ek:OK ud:=B0 [mz] (tl (tw (me [sv 3 4] lf) (tw (tl (tw (lo [sv 3 4,sv 17 3] [] (tl (tl (tw (tw (tl (me [sv 3 4] lf)) lf) lf)))) lf)) (tw (tw (me [sv 43 4] lf) lf) lf)))) ⟨qD,trivial⟩ (by kernel_rfl) (by kernel_rfl)
def mA:CX:= .c ⟨130,[37,3],[65,4],fU⟩
theorem qE:OK mA:=B0 [] (tl (tw (tl (tw (.loop {slots:=[sv 11 3],boxes:=[(1,[.val 3, .val 3, .val 3, .val 3, .val 63, .val 4])],cw:=[5]} lf) lf)) lf)) trivial (by kernel_rfl) (by kernel_rfl)
def wo:CX:= .c ⟨132,[37,114,3],[4],jB⟩
theorem Gb:OK wo:=B0 [gz,mA,mz,ou] (tl (tl (tl (tw (me [sv 6 4] lf) lf)))) ⟨iS,qE,qD,rZ,trivial⟩ (by kernel_rfl) (by kernel_rfl)
def ue:CX:= .c ⟨40,[37],[40],iO⟩
theorem El:OK ue:=B0 [wo] (tl (tl (tw (tl (tw (lo [sv 18 3] [2] (tl (tl (tw (tw (tl (tw (tw (me [sv 41 4] lf) lf) (tl (tl (tw (lo [sv 5 3,sv 45 3] [] lf) lf))))) lf) lf)))) lf)) lf))) ⟨Gb,trivial⟩ (by kernel_rfl) (by kernel_rfl)
def wq:CX:= .c ⟨37,[37],[40],jC⟩
theorem Gc:OK wq:=B0 [vC,mz] (tl (tl (tl (tw (tl (tw (lo [sv 3 3,sv 20 3] [2] (tl (tl (tw (tw (tl (tw (tw (me [sv 45 4] lf) lf) (tl (tl (tw (tl (tw (lo [sv 55 3] [] (tl (tl (tw (tw (tl (tw (me [sv 71 4] lf) lf)) lf) lf)))) lf)) (tl (tw (lo [sv 76 3] [] lf) lf))))))) lf) lf)))) lf)) lf)))) ⟨Cv,qD,trivial⟩ (by kernel_rfl) (by kernel_rfl)
def oP:CX:= .c ⟨39,[37],[40],fN⟩
theorem za:OK oP:=B0 [ya,zI,mA] (tl (tl (tw (tl (tw (lo [sv 16 3] [2] (tl (tl (tw (tw (tl (tl (tl (tl (tw (me [sv 43 4] lf) lf))))) lf) lf)))) lf)) lf))) ⟨Jf,Ko,qE,trivial⟩ (by kernel_rfl) (by kernel_rfl)
def FA:CX:= .c ⟨254,[177],[3],og⟩
theorem Rr:OK FA:=B0 [mu] (tl (tw (tl (tw (tw (tl (me [sv 11 4] lf)) (tl (tw (tl (me [sv 14 4] (tl (tl (me [sv 14 4] lf))))) (tl (tl (tw (tw (tw (me [sv 27 4] lf) lf) lf) lf)))))) lf)) lf)) ⟨qx,trivial⟩ (by kernel_rfl) (by kernel_rfl)
def Jx:CX:= .c ⟨134,[49,121],[4],vo⟩
theorem Th:OK Jx:=B0 [oG,FA] (tl (tw (tw (me [sv 27 4] lf) lf) (tw (tw (me [sv 35 4] lf) (tw (tw (me [sv 4 4] lf) lf) lf)) (tl (tw (tl (tw (.loop {slots:=[sv 54 3],boxes:=[(3,[.val 9, .val 3, .val 3])]} (tl (tl (tw (tw (tl (tl (.meet {boxes:=[(3,[.val 9, .val 3, .val 3])]} lf))) lf) lf)))) lf)) (tl (tw (tl (tw (lo [sv 8 3,sv 73 3] [] lf) lf)) (tw (me [sv 11 4] lf) (tw (me [sv 4 4] lf) lf))))))))) ⟨vV,Rr,trivial⟩ (by kernel_rfl) (by kernel_rfl)
def wu:CX:= .c ⟨41,[37],[40],jD⟩
theorem Gd:OK wu:=B0 [oG,mA,Jx] (tl (tw (tl (tw (lo [sv 13 3] [2] (tl (tl (tw (tw (tl (tl (tw (tw (me [sv 40 4] lf) lf) (tl (tl (tl (tw (lo [sv 54 3] [] (tl (tl (tw (tw (tl (tw (me [sv 72 4] lf) lf)) lf) lf)))) lf))))))) lf) lf)))) lf)) lf)) ⟨vV,qE,Th,trivial⟩ (by kernel_rfl) (by kernel_rfl)
def zR:CX:= .c ⟨13,[37,3],[40],sL⟩
theorem Kx:OK zR:=B0 [sn,nj,ud,ue,wq,oP,wu,oH] (tl (tw (tl (.meet {cw:=[4]} (tw (tw (.meet {cw:=[4]} (tw (tw (.meet {cw:=[4]} (tw (tw (.meet {cw:=[4]} (tw (tw (.meet {cw:=[4]} (tw (tw (.meet {cw:=[4]} (tw (tw (.meet {cw:=[4]} lf) lf) lf)) lf) lf)) lf) lf)) lf) lf)) lf) lf)) lf) lf))) lf)) ⟨CE,t_,Ek,El,Gc,za,Gd,v_,trivial⟩ (by kernel_rfl) (by kernel_rfl)
def uf:CX:= .c ⟨6,[37],[40],iP⟩
theorem Em:OK uf:=B0 [zR] lf ⟨Kx,trivial⟩ (by kernel_rfl) (by kernel_rfl)
def nq:CX:= .c ⟨3,[37],[4],cD⟩
theorem nr:OK nq:=B0 [mI,mL,yp,uf] (tl (tl (tw (me [sv 2 4] lf) lf))) ⟨ado,wC,Jw,Em,trivial⟩ (by kernel_rfl) (by kernel_rfl)
end
end Go.Sy
namespace Go.Sy
open Go.Proofs
open Go.Sim (bL)
open Go.RowKit (Below)
noncomputable section
theorem ah0:isAgg Tryz.prog 4=false:=by kernel_rfl
theorem Zx {w:World} (h0:0<w.heap.size∧ ∀ k v,Ea[k]? =some v→bL v=true∧w.cell? ⟨0,k,none⟩=some v) (h1:1<w.heap.size∧ ∀ k v,Eb[k]? =some v→bL v=true∧w.cell? ⟨1,k,none⟩=some v):Ss Tryz.prog rT (AF w) w:=by
 intro g e l hg;have hg2:(g=0∧e=4∧l=G_0)∨(g=1∧e=5∧l=G_1):=by
  match g,hg with
  |0,hg=>cases hg; exact .inl ⟨rfl,rfl,rfl⟩
  |1,hg=>cases hg; exact .inr ⟨rfl,rfl,rfl⟩
  |g+2,hg=>cases hg
 rcases hg2 with ⟨rfl,rfl,rfl⟩|⟨rfl,rfl,rfl⟩
 ·refine ⟨h0.1,fun i p hp=>⟨.bool p.toBool,(h0.2 i _ (by simp [Ea,hp])).2, ?_⟩⟩
  have:=abH p (List.mem_of_getElem? hp);rw [this];exact .bool Tryz.underlying4
 ·refine ⟨h1.1,fun i p hp=>⟨.int .u8 p.toInt,(h1.2 i _ (by simp [Eb,hp])).2, ?_⟩⟩
  have:=abI p (List.mem_of_getElem? hp);rw [this];refine .int Tryz.underlying5 ?_;obtain ⟨k,_,rfl⟩:=List.mem_map.1 (List.mem_of_getElem? hp);show JW .u8 (if _ then 1 else 0)
  split<;>rfl
theorem LZ {w:World} (hG:Ss Tryz.prog rT (AF w) w) {v:Value} {p:PV} (hv:cu Tryz.prog w (AF w) 37 v p):
  Calls Tryz.prog 3 ⟨[v]⟩ w fun e w'=>e= .returned (.bool true)∧Below w.heap.size w w':=by
 have hx:Ls Tryz.prog (Ss Tryz.prog rT) ⟨3,[37],[4],cD⟩:=nr;refine (hx.run [p] [.bool true] (V.Zq p (V.aaU hv)) w [v] (AF w) (fun _ h=>h) hG rfl ?_).mono ?_
 ·intro j t v' h1 h2
  cases j with
  |zero=>simp at h1 h2; subst h1; subst h2; exact hv
  |succ j=>simp at h1
 ·rintro e w' ⟨us,u,Z',rfl,hb,hr,_,_,_,hl,_,Dy⟩
  obtain ⟨u0,rfl⟩: ∃ u0,us=[u0]:=by
   match us,hl with
   |[q],_=>exact ⟨q,rfl⟩
  have h1:=Dy 0 4 u0 (.bool true) rfl rfl rfl;unfold cu at h1;rw [ah0] at h1;have h2:u0= .bool true:=by
   cases h1 with
   |bool=>rfl
  subst h2;refine ⟨?_,hb⟩;rcases hr with h|⟨h,_⟩
  ·rw [List.cons.inj h |>.1]
  ·exact absurd rfl (h _)
end
end Go.Sy
namespace Go.Sy
open Go.Proofs
theorem af3:rdB Tryz.prog 8 37=true:=by kernel_rfl
theorem abK:isAgg Tryz.prog 37=true:=by kernel_rfl
end Go.Sy
