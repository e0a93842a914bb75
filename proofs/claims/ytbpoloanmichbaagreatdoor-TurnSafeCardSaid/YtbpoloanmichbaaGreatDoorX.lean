/-
  Proved here: contracts of the functions that the law reaches, and of the law: it answers true for every game within the row's reach. Its condition is that the listed variable holds its table.
-/
import Derived.Test.YtbpoloanmichbaaGreatDoorE
import Derived.Test.YtbpoloanmichbaaGreatDoorW
import Derived.KernelRfl
set_option linter.unusedVariables false
set_option linter.unusedSimpArgs false
set_option maxRecDepth 100000
namespace Go.Sy
open Go.Proofs Go.Sim
noncomputable section
def Zv (P:Program) (f:FuncId) (ps rs:List TypeId):Bool:=match P.funcs[f]? with
 |some fn=>match fn.body with
  |some _=>decide (fn.params.toList=ps)&&decide (fn.resultTypes.toList=rs)
  |none=>false
 |none=>false
def abJ (P:Program) (f:FuncId) (ps:List TypeId):Bool:=match P.funcs[f]? with
 |some fn=>match fn.body with
  |some _=>decide (fn.params.toList=ps)
  |none=>false
 |none=>false
def LM (P:Program) (G:yZ):List CX→Prop
 |[]=>True
 |c::l=>Au P G c∧LM P G l
theorem LM.all {P:Program} {G:yZ}: ∀ {l:List CX},LM P G l→ ∀ c∈l,Au P G c
 |[],_,_,hc=>by simp at hc
 |a::l,h,c,hc=>by
  rcases List.mem_cons.1 hc with rfl|hc
  ·exact h.1
  ·exact h.2.all c hc
theorem Og {P:Program} (hN:aX P) (hM:P.follows .mixedOrders=true) {G:yZ} {l:List CX} (hl:LM P G l) {jo:FuncId→Option Hint} {n:Nat} {f:FuncId} {h:Hint} {F:List PV→Option (List PV)} (e:fnK P (Lt P (tJ P G (Qn P l)) (Uq P l) jo n) (pcA P (tJ P G (Qn P l)) (Uq P l) jo n) f h=F) {ps rs:List TypeId} (hb:Zv P f ps rs=true):Au P G (.c ⟨f,ps,rs,F⟩):=by
 unfold Zv at hb;split at hb
 ·rename_i fn h1
  split at hb
  ·rename_i c h2
   simp only [Bool.and_eq_true,decide_eq_true_eq] at hb;exact aeI hN hM hl.all e h1 h2 hb.1 hb.2
  ·simp at hb
 ·simp at hb
theorem Q4 {P:Program} (hN:aX P) (hM:P.follows .mixedOrders=true) {G:yZ} {l:List CX} (hl:LM P G l) {jo:FuncId→Option Hint} {n:Nat} {f:FuncId} {h:Hint} {el:TypeId} (hfl:zj P el=true) {F:List PV→Option (List PV)} (e:fnO P (Lt P (tJ P G (Qn P l)) (Uq P l) jo n) (pcA P (tJ P G (Qn P l)) (Uq P l) jo n) f el h=F) {ps:List TypeId} (hb:abJ P f ps=true):Au P G (.o ⟨f,ps,el,F⟩):=by
 unfold abJ at hb;split at hb
 ·rename_i fn h1
  split at hb
  ·rename_i c h2
   simp only [decide_eq_true_eq] at hb;exact acV hN hM hl.all hfl e h1 h2 hb
  ·simp at hb
 ·simp at hb
abbrev OK (c:CX):Prop:=Au Tryz.prog rT c
theorem cK:aX Tryz.prog:=HA dj.names
theorem dI:Tryz.prog.follows .mixedOrders=true:=dj.mixed
abbrev lf:Hint:= .leaf
abbrev tw (a b:Hint):Hint:= .two a b
abbrev tl (a:Hint):Hint:= .two .leaf a
abbrev me (l:List (Nat×uP)) (a:Hint):Hint:= .meet {slots:=l} a
abbrev lo (l:List (Nat×uP)) (k:List Nat) (a:Hint):Hint:= .loop {slots:=l,cw:=k} a
abbrev sv (n t:Nat):Nat×uP:=(n, .val t)
theorem B0 (l:List CX) (h:Hint) (hl:LM Tryz.prog rT l) {f:FuncId} {F:List PV→Option (List PV)} {ps rs:List TypeId} (e:fnK Tryz.prog (Lt Tryz.prog (tJ Tryz.prog rT (Qn Tryz.prog l)) (Uq Tryz.prog l) (fG []) 0) (pcA Tryz.prog (tJ Tryz.prog rT (Qn Tryz.prog l)) (Uq Tryz.prog l) (fG []) 0) f h=F) (hb:Zv Tryz.prog f ps rs=true):Au Tryz.prog rT (.c ⟨f,ps,rs,F⟩):=Og cK dI hl e hb
def rU:CX:= .c ⟨72,[3,3,3],[3],n8⟩
theorem xV:OK rU:=B0 [] lf trivial (by kernel_rfl) (by kernel_rfl)
def xW:CX:= .c ⟨62,[50],[3],lM⟩
theorem I0:OK xW:=B0 [rU] lf ⟨xV,trivial⟩ (by kernel_rfl) (by kernel_rfl)
def LN:CX:= .c ⟨194,[48,48],[3],DT⟩
theorem Wv:OK LN:=B0 [] lf trivial (by kernel_rfl) (by kernel_rfl)
def I1:CX:= .c ⟨195,[3],[3],u_⟩
theorem S5:OK I1:=B0 [rU] lf ⟨xV,trivial⟩ (by kernel_rfl) (by kernel_rfl)
def jg:CX:= .c ⟨104,[48],[48],ep⟩
theorem nP:OK jg:=B0 [I1] lf ⟨S5,trivial⟩ (by kernel_rfl) (by kernel_rfl)
def LO:CX:= .c ⟨102,[48,48],[3],DU⟩
theorem Ww:OK LO:=B0 [LN,jg] lf ⟨Wv,nP,trivial⟩ (by kernel_rfl) (by kernel_rfl)
def I2:CX:= .c ⟨63,[48],[3],vc⟩
theorem S6:OK I2:=B0 [LO] lf ⟨Ww,trivial⟩ (by kernel_rfl) (by kernel_rfl)
def E_:CX:= .c ⟨105,[48],[48],xD⟩
theorem Q5:OK E_:=B0 [] lf trivial (by kernel_rfl) (by kernel_rfl)
def LP:CX:= .c ⟨103,[277],[48],DV⟩
theorem Wx:OK LP:=B0 [jg] (tl (tl (tw (tl (tw (.loop {slots:=[sv 8 3],boxes:=[(1,[.val 3, .val 3])]} lf) lf)) lf))) ⟨nP,trivial⟩ (by kernel_rfl) (by kernel_rfl)
def Ec:CX:= .c ⟨64,[48,48],[48],tK⟩
theorem LQ:OK Ec:=B0 [E_,jg,LP] lf ⟨Q5,nP,Wx,trivial⟩ (by kernel_rfl) (by kernel_rfl)
def vT:CX:= .c ⟨26,[50,50],[4],jq⟩
theorem FP:OK vT:=B0 [xW,I2,Ec] lf ⟨I0,S6,LQ,trivial⟩ (by kernel_rfl) (by kernel_rfl)
def rV:CX:= .c ⟨8,[40],[4],gV⟩
def Cs:List (Nat×Hint):=[(24,lf),(61, .mD {slots:=[sv 4 3]} (tl (tw (tl (tw (lo [sv 8 3] [4] lf) lf)) lf))),(25,lf)]
theorem Ct:OK rV:=Og cK dI (l:=[vT]) (h:=(tl (tw (tl (tw (lo [sv 7 3] [2] lf) lf)) lf))) (jo:=fG Cs) (n:=8) ⟨FP,trivial⟩ (by kernel_rfl) (by kernel_rfl)
def gT:CX:= .o ⟨144,[129],9,cj⟩
theorem mJ:OK gT:=Q4 cK dI (hfl:=by kernel_rfl) (l:=[]) (h:=lf) (jo:=fG []) (n:=0) trivial (by kernel_rfl) (by kernel_rfl)
def rW:CX:= .c ⟨193,[131],[131],gW⟩
theorem Cu:OK rW:=B0 [gT] lf ⟨mJ,trivial⟩ (by kernel_rfl) (by kernel_rfl)
def ew:CX:= .c ⟨192,[131],[9],aH⟩
theorem fW:OK ew:=B0 [] lf trivial (by kernel_rfl) (by kernel_rfl)
def gz:CX:= .c ⟨101,[27,9],[131,4],dL⟩
def NR:List (Nat×Hint):=[(191,tl (.mD {slots:=[sv 7 4],boxes:=[(1000000,[.val 9, .val 4, .val 4, .val 3, .val 3, .val 3, .val 3, .val 3, .val 3, .val 3, .val 3, .val 3, .val 9, .val 3, .val 3, .val 3, .val 129, .val 129, .val 129])]} (tw (tl (tw (.loop {slots:=[sv 13 3],boxes:=[(1000000,[.val 9, .val 4, .val 4, .val 3, .val 3, .val 3, .val 3, .val 3, .val 3, .val 3, .val 3, .val 3, .val 9, .val 3, .val 3, .val 3, .val 129, .val 129, .val 129])],cw:=[7]} lf) lf)) lf)))]
theorem iS:OK gz:=Og cK dI (l:=[rW,ew]) (h:=lf) (jo:=fG NR) (n:=8) ⟨Cu,fW,trivial⟩ (by kernel_rfl) (by kernel_rfl)
def sP:CX:= .c ⟨60,[27,73],[50,4],i6⟩
theorem zx:OK sP:=B0 [gz] (tl (tl (tw (tw (me [sv 20 4] lf) lf) lf))) ⟨iS,trivial⟩ (by kernel_rfl) (by kernel_rfl)
def vW:CX:= .o ⟨7,[27,32],50,jt⟩
def FU:List (Nat×Hint):=[(23,lf),(59,tl (tw (.loop {slots:=[sv 10 3],boxes:=[(11,[]),(2,[.own 50])]} lf) lf))]
theorem FV:OK vW:=Q4 cK dI (hfl:=by kernel_rfl) (l:=[sP]) (h:=lf) (jo:=fG FU) (n:=8) ⟨zx,trivial⟩ (by kernel_rfl) (by kernel_rfl)
def I4:CX:= .c ⟨11,[3],[3],ve⟩
theorem S7:OK I4:=B0 [] lf trivial (by kernel_rfl) (by kernel_rfl)
def sQ:CX:= .c ⟨107,[48],[52],nB⟩
theorem zy:OK sQ:=B0 [I4] lf ⟨S7,trivial⟩ (by kernel_rfl) (by kernel_rfl)
def vX:CX:= .c ⟨108,[131,48],[48],oE⟩
theorem FW:OK vX:=B0 [Ec] lf ⟨LQ,trivial⟩ (by kernel_rfl) (by kernel_rfl)
def zA:CX:= .c ⟨70,[27,73],[81,4],nC⟩
theorem Kg:OK zA:=B0 [sQ,vX,gz] (tl (tl (tw (tw (me [sv 42 4] lf) lf) lf))) ⟨zy,FW,iS,trivial⟩ (by kernel_rfl) (by kernel_rfl)
def Ly:CX:= .o ⟨10,[27,32],81,lO⟩
def aiB:List (Nat×Hint):=[(31,lf),(69,tl (tw (.loop {slots:=[sv 10 3],boxes:=[(11,[]),(2,[.own 81])]} lf) lf))]
theorem aiC:OK Ly:=Q4 cK dI (hfl:=by kernel_rfl) (l:=[zA]) (h:=lf) (jo:=fG aiB) (n:=8) ⟨Kg,trivial⟩ (by kernel_rfl) (by kernel_rfl)
def ot:CX:= .c ⟨34,[3],[3],dR⟩
theorem rX:OK ot:=B0 [rU] lf ⟨xV,trivial⟩ (by kernel_rfl) (by kernel_rfl)
def rY:CX:= .c ⟨68,[81],[81],kj⟩
theorem x5:OK rY:=B0 [ot] lf ⟨rX,trivial⟩ (by kernel_rfl) (by kernel_rfl)
def aih:CX:= .o ⟨66,[81],52,pB⟩
theorem aiU:OK aih:=Q4 cK dI (hfl:=by kernel_rfl) (l:=[rY]) (h:=(tl (tl (tw (tw (me [sv 24 4] lf) lf) (tl (tw (tl (tw (lo [(4, .own 52),sv 27 3] [] (tl (tl (tw (tw (tl (tl (tw (lo [(4, .own 52),sv 32 3] [] lf) lf))) lf) lf)))) lf)) lf)))))) (jo:=fG []) (n:=0) ⟨x5,trivial⟩ (by kernel_rfl) (by kernel_rfl)
def LR:CX:= .c ⟨110,[3,3,52],[4],yL⟩
theorem Wy:OK LR:=B0 [] (tl (tw (me [sv 6 4] lf) lf)) trivial (by kernel_rfl) (by kernel_rfl)
def AG:CX:= .c ⟨33,[52],[52],vf⟩
theorem I7:OK AG:=B0 [ot] lf ⟨rX,trivial⟩ (by kernel_rfl) (by kernel_rfl)
def Cw:CX:= .c ⟨13,[3,52],[3],vg⟩
theorem NT:OK Cw:=B0 [ot,AG] lf ⟨rX,I7,trivial⟩ (by kernel_rfl) (by kernel_rfl)
def zB:CX:= .c ⟨30,[81,52],[4],nD⟩
theorem Kh:OK zB:=B0 [AG,rY] (tl (tl (tw (me [sv 4 4] lf) lf))) ⟨I7,x5,trivial⟩ (by kernel_rfl) (by kernel_rfl)
def Cx:CX:= .c ⟨106,[3,3],[4],o_⟩
theorem NU:OK Cx:=B0 [] (tl (tw (me [sv 4 4] lf) lf)) trivial (by kernel_rfl) (by kernel_rfl)
def z0:CX:= .c ⟨65,[30],[4],gb⟩
theorem ait:OK z0:=B0 [Cx] (tl (tw (me [sv 2 4] lf) lf)) ⟨NU,trivial⟩ (by kernel_rfl) (by kernel_rfl)
def aii:CX:= .o ⟨27,[30],52,pC⟩
theorem aiV:OK aii:=Q4 cK dI (hfl:=by kernel_rfl) (l:=[aih,z0]) (h:=lf) (jo:=fG []) (n:=0) ⟨aiU,ait,trivial⟩ (by kernel_rfl) (by kernel_rfl)
def zT:CX:= .o ⟨9,[30,45],4,eJ⟩
def aik:List (Nat×Hint):=[(28,lf),(67, .mD {slots:=[sv 4 3]} (tl (tw (tl (tw (lo [sv 8 3] [4] lf) lf)) lf))),(29,lf)]
theorem ail:OK zT:=Q4 cK dI (hfl:=by kernel_rfl) (l:=[zB,aii]) (h:=(tl (tl (tl (tw (tl (tw (lo [sv 16 3,(6, .own 4)] [13] lf) lf)) lf))))) (jo:=fG aik) (n:=8) ⟨Kh,aiV,trivial⟩ (by kernel_rfl) (by kernel_rfl)
def LY:CX:= .c ⟨41,[3,3],[3,55],DX⟩
theorem WB:OK LY:=B0 [] (tl (tl (tw (tw (me [sv 15 4] lf) lf) (tl (tw (tw (me [sv 30 4] lf) (me [sv 6 3] lf)) lf))))) trivial (by kernel_rfl) (by kernel_rfl)
def Jo:CX:= .c ⟨18,[3],[3],qm⟩
theorem Tc:OK Jo:=B0 [LY] lf ⟨WB,trivial⟩ (by kernel_rfl) (by kernel_rfl)
def vH:CX:= .c ⟨44,[3],[3],gy⟩
theorem AN:OK vH:=B0 [] lf trivial (by kernel_rfl) (by kernel_rfl)
def Ej:CX:= .c ⟨43,[52],[52],yM⟩
theorem LW:OK Ej:=B0 [vH] lf ⟨AN,trivial⟩ (by kernel_rfl) (by kernel_rfl)
def Fo:CX:= .c ⟨20,[3,52],[3],xE⟩
theorem Rh:OK Fo:=B0 [vH,Ej] lf ⟨AN,LW,trivial⟩ (by kernel_rfl) (by kernel_rfl)
def Ri:CX:= .c ⟨113,[3,3,52],[4],B5⟩
theorem Zw:OK Ri:=B0 [] (tl (tw (me [sv 6 4] lf) lf)) trivial (by kernel_rfl) (by kernel_rfl)
def Fe:CX:= .c ⟨77,[3,3],[4],rF⟩
theorem Q8:OK Fe:=B0 [] (tl (tw (me [sv 4 4] lf) lf)) trivial (by kernel_rfl) (by kernel_rfl)
def vE:CX:= .c ⟨37,[30],[4],lX⟩
theorem CH:OK vE:=B0 [Fe] (tl (tw (me [sv 2 4] lf) lf)) ⟨Q8,trivial⟩ (by kernel_rfl) (by kernel_rfl)
def CY:CX:= .c ⟨80,[30,52],[4],pG⟩
theorem N2:OK CY:=B0 [Ri,vE] (tl (tw (me [sv 4 4] lf) lf)) ⟨Zw,CH,trivial⟩ (by kernel_rfl) (by kernel_rfl)
def LX:CX:= .c ⟨42,[30,52],[89,4],yN⟩
theorem WA:OK LX:=B0 [Fo,CY] lf ⟨Rh,N2,trivial⟩ (by kernel_rfl) (by kernel_rfl)
def yg:CX:= .c ⟨19,[30,3,52],[4],l7⟩
theorem Jn:OK yg:=B0 [LX] (tl (tl (tw (tl (tw (tl (tw (tw (me [sv 6 4] lf) lf) (tl (tw (tw (me [sv 6 4] lf) lf) lf)))) lf)) lf))) ⟨WA,trivial⟩ (by kernel_rfl) (by kernel_rfl)
def ai2:CX:= .c ⟨39,[3,3],[52],aib⟩
theorem ajz:OK ai2:=B0 [] (tl (tw (tw (me [sv 10 4] lf) lf) lf)) trivial (by kernel_rfl) (by kernel_rfl)
def vI:CX:= .c ⟨78,[81],[81],jP⟩
theorem AP:OK vI:=B0 [vH] lf ⟨AN,trivial⟩ (by kernel_rfl) (by kernel_rfl)
def CU:CX:= .c ⟨38,[81,52],[4],l5⟩
theorem N1:OK CU:=B0 [Ej,vI] (tl (tl (tw (me [sv 4 4] lf) lf))) ⟨LW,AP,trivial⟩ (by kernel_rfl) (by kernel_rfl)
def Pa:CX:= .o ⟨16,[30,45],4,pA⟩
theorem aiI:OK Pa:=Q4 cK dI (hfl:=by kernel_rfl) (l:=[ai2,CU,vE]) (h:=(tl (tl (tl (tw (tl (tw (lo [sv 6 3,(5, .own 4)] [16] (tl (tw (tw (tl (tw (lo [sv 7 3,(5, .own 4)] [18] (tl (tw (tw (tl (me [(5, .own 4)] lf)) lf) lf))) lf)) lf) lf))) lf)) lf))))) (jo:=fG []) (n:=0) ⟨ajz,N1,CH,trivial⟩ (by kernel_rfl) (by kernel_rfl)
def Fk:CX:= .c ⟨74,[3,3,3],[3],rK⟩
theorem Re:OK Fk:=B0 [] lf trivial (by kernel_rfl) (by kernel_rfl)
def Ji:CX:= .c ⟨196,[3],[3],ql⟩
theorem S8:OK Ji:=B0 [] lf trivial (by kernel_rfl) (by kernel_rfl)
def nR:CX:= .c ⟨112,[48],[48],dN⟩
theorem sW:OK nR:=B0 [Ji] lf ⟨S8,trivial⟩ (by kernel_rfl) (by kernel_rfl)
def LU:CX:= .c ⟨111,[48,48],[3],DW⟩
theorem Wz:OK LU:=B0 [nR] lf ⟨sW,trivial⟩ (by kernel_rfl) (by kernel_rfl)
def Jj:CX:= .c ⟨75,[48],[3],vk⟩
theorem S9:OK Jj:=B0 [LU] lf ⟨Wz,trivial⟩ (by kernel_rfl) (by kernel_rfl)
def Ei:CX:= .c ⟨76,[48,48],[48],tL⟩
theorem LV:OK Ei:=B0 [nR] lf ⟨sW,trivial⟩ (by kernel_rfl) (by kernel_rfl)
def zL:CX:= .c ⟨36,[50,50],[4],nK⟩
theorem Kr:OK zL:=B0 [Fk,Jj,Ei] lf ⟨Re,S9,LV,trivial⟩ (by kernel_rfl) (by kernel_rfl)
def wk:CX:= .c ⟨15,[40],[4],jz⟩
theorem F_:OK wk:=B0 [zL] (tl (tw (tl (tw (lo [sv 3 3] [2] (tl (tw (tw (tl (tw (lo [sv 4 3] [] lf) lf)) lf) lf))) lf)) lf)) ⟨Kr,trivial⟩ (by kernel_rfl) (by kernel_rfl)
def fE:CX:= .c ⟨73,[27,9],[131,4],dG⟩
theorem gB:OK fE:=B0 [] (tl (tw (tl (tw (.loop {slots:=[sv 6 3],boxes:=[(1,[.val 9, .val 4, .val 4, .val 3, .val 3, .val 3, .val 3, .val 3, .val 3, .val 3, .val 3, .val 3, .val 9, .val 3, .val 3, .val 3, .val 129, .val 129, .val 129])],cw:=[5]} lf) lf)) lf)) trivial (by kernel_rfl) (by kernel_rfl)
def Jk:CX:= .c ⟨35,[27,73],[50,4],vl⟩
theorem S_:OK Jk:=B0 [fE] (tl (tl (tw (tw (me [sv 20 4] lf) lf) lf))) ⟨gB,trivial⟩ (by kernel_rfl) (by kernel_rfl)
def CN:CX:= .o ⟨14,[27,32],50,pz⟩
theorem NY:OK CN:=Q4 cK dI (hfl:=by kernel_rfl) (l:=[Jk]) (h:=(tl (tl (tw (tl (tw (lo [(5, .own 50),sv 6 3] [] (tl (tw (tw (tl (tl (me [(5, .own 50)] lf))) lf) lf))) lf)) lf)))) (jo:=fG []) (n:=0) ⟨S_,trivial⟩ (by kernel_rfl) (by kernel_rfl)
def AQ:CX:= .c ⟨79,[48],[52],qn⟩
theorem Jp:OK AQ:=B0 [Jo] lf ⟨Tc,trivial⟩ (by kernel_rfl) (by kernel_rfl)
def Jq:CX:= .c ⟨40,[27,73],[81,4],qo⟩
theorem Td:OK Jq:=B0 [Ei,fE,AQ] (tl (tl (tw (tw (me [sv 42 4] lf) lf) lf))) ⟨LV,gB,Jp,trivial⟩ (by kernel_rfl) (by kernel_rfl)
def aip:CX:= .o ⟨17,[27,32],81,so⟩
theorem ai3:OK aip:=Q4 cK dI (hfl:=by kernel_rfl) (l:=[Jq]) (h:=(tl (tl (tw (tl (tw (lo [(5, .own 81),sv 6 3] [] (tl (tw (tw (tl (tl (me [(5, .own 81)] lf))) lf) lf))) lf)) lf)))) (jo:=fG []) (n:=0) ⟨Td,trivial⟩ (by kernel_rfl) (by kernel_rfl)
def aiD:CX:= .c ⟨5,[37],[4],zW⟩
theorem aje:OK aiD:=B0 [Jo,Fo,yg,Pa,wk,CN,aip] (tl (tl (tl (tl (tw (tl (tw (lo [sv 5 3] [2] (tl (tw (.meet {} (tw (tl (tl (tl (tl (tw (me [sv 75 4] lf) lf))))) lf)) lf))) lf)) lf))))) ⟨Tc,Rh,Jn,aiI,F_,NY,ai3,trivial⟩ (by kernel_rfl) (by kernel_rfl)
def ni:CX:= .c ⟨109,[30],[4],fS⟩
theorem tW:OK ni:=B0 [Cx] (tl (tw (me [sv 2 4] lf) lf)) ⟨NU,trivial⟩ (by kernel_rfl) (by kernel_rfl)
def tX:CX:= .c ⟨71,[30,52],[4],iK⟩
theorem Ed:OK tX:=B0 [LR,ni] (tl (tw (me [sv 4 4] lf) lf)) ⟨Wy,tW,trivial⟩ (by kernel_rfl) (by kernel_rfl)
def zC:CX:= .c ⟨32,[30,52],[89,4],nE⟩
theorem Ki:OK zC:=B0 [Cw,tX] lf ⟨NT,Ed,trivial⟩ (by kernel_rfl) (by kernel_rfl)
def qy:CX:= .c ⟨12,[30,3,52],[4],gu⟩
theorem AH:OK qy:=B0 [zC] (tl (tl (tw (tw (me [sv 24 4] lf) lf) (tw (me [sv 6 4] (.any)) lf)))) ⟨Ki,trivial⟩ (by kernel_rfl) (by kernel_rfl)
def aiq:CX:= .c ⟨4,[37],[4],vh⟩
theorem ai4:OK aiq:=B0 [rV,vW,Ly,Cw,I4,zT,qy] (tl (tl (tl (tl (tw (tl (tw (lo [sv 27 3] [2] (tl (tl (tw (.meet {} (tw (tl (tl (tl (tl (tl (tw (me [sv 68 4] lf) lf)))))) lf)) lf)))) lf)) lf))))) ⟨Ct,FV,aiC,NT,S7,ail,AH,trivial⟩ (by kernel_rfl) (by kernel_rfl)
def vR:CX:= .c ⟨3,[37],[4],cX⟩
theorem v5:OK vR:=B0 [fj,aiD,aiq] (tl (tw (me [sv 2 4] lf) lf)) ⟨hex,aje,ai4,trivial⟩ (by kernel_rfl) (by kernel_rfl)
end
end Go.Sy
namespace Go.Sy
open Go.Proofs
open Go.Sim (bL)
open Go.RowKit (Below)
noncomputable section
theorem ah0:isAgg Tryz.prog 4=false:=by kernel_rfl
theorem Zq (g:PV) (G:V.Gen g):cX [g]=some [.bool true]:=by
 simp only [cX,V.aA];rw [V.ajr g G,V.ajy g G];simp only [V.an,V.aA,V.ak,ah];cases V.ai0 g<;>rfl
theorem Zx {w:World} (h0:0<w.heap.size∧ ∀ k v,dj.vj[k]? =some v→bL v=true∧w.cell? ⟨0,k,none⟩=some v):Ss Tryz.prog rT (AF w) w:=by
 intro g e l hg;have hg2:g=0∧e=4∧l=G_0:=by
  match g,hg with
  |0,hg=>cases hg; exact ⟨rfl,rfl,rfl⟩
  |g+1,hg=>cases hg
 obtain ⟨rfl,rfl,rfl⟩:=hg2;refine ⟨h0.1,fun i p hp=>⟨.bool p.toBool,(h0.2 i _ (by simp [ajK,hp])).2, ?_⟩⟩;rw [abH p (List.mem_of_getElem? hp)];exact .bool akc
theorem akI:(aI Tryz.prog 37)[5]? =some 23:=by kernel_rfl
theorem akd:(aI Tryz.prog 37)[12]? =some 32:=by kernel_rfl
theorem ake:Tryz.prog.underlying 23=some (.slice 131):=by kernel_rfl
theorem akf:Tryz.prog.underlying 32=some (.slice 73):=by kernel_rfl
theorem ajR:Tryz.prog.underlying 129=some (.slice 9):=by kernel_rfl
theorem ajS:isAgg Tryz.prog 131=true:=by kernel_rfl
theorem akJ:Tryz.prog.bytesOf 73=136:=by kernel_rfl
theorem by9:Tryz.prog.bytesOf 9=16:=by kernel_rfl
theorem ajf:(aI Tryz.prog 131)[16]? =some 129∧(aI Tryz.prog 131)[17]? =some 129∧(aI Tryz.prog 131)[18]? =some 129:=⟨by kernel_rfl,by kernel_rfl,by kernel_rfl⟩
theorem akg:(aI Tryz.prog 37).length=16:=by kernel_rfl
theorem ajg {t e:TypeId} {p:PV} (ht:Tryz.prog.underlying t=some (.slice e)) (h:Rch Tryz.prog t p):p.toList.length*Tryz.prog.bytesOf e≤reachBytes∧ ∀ q∈p.toList, ∀ (j:Nat) (t':TypeId),(aI Tryz.prog e)[j]? =some t'→Rch Tryz.prog t' (cellAt Tryz.prog e q j):=by
 cases h with
 |sl h1 h2 h3=>rw [ht] at h1; cases h1; exact ⟨h2,h3⟩
 |any h1=>exact absurd ht (h1 e)
theorem ajL {n:Nat} (h:n*16≤reachBytes):dO 16 n=true:=by
 unfold reachBytes at h;simp only [dO,Bool.and_eq_true,Nat.ble_eq];omega
theorem ajA {w:World} {v:Value} {ps:List PV} (hv:cu Tryz.prog w (AF w) 37 v (.agg ps)) (hl:ps.length=(aI Tryz.prog 37).length) (hr: ∀ (j:Nat) (t':TypeId) (q:PV),(aI Tryz.prog 37)[j]? =some t'→ps[j]? =some q→Rch Tryz.prog t' q):V.Gen (.agg ps):=by
 rw [akg] at hl;have hf: ∀ j,j<16→ps[j]? =some (aj (.agg ps) j):=fun j hj=>by
  have:j<ps.length:=by omega
  simp [aj,PV.cells,this]
 refine ⟨V.aaU hv, ?_, ?_⟩
 ·obtain ⟨h1,_⟩:=ajg akf (hr 12 32 _ akd (hf 12 (by omega)))
  rw [akJ] at h1;unfold reachBytes at h1;omega
 ·obtain ⟨_,h2⟩:=ajg ake (hr 5 23 _ akI (hf 5 (by omega)))
  have e:aj (V.aP (.agg ps)) 0=aj (.agg ps) 5:=by simp [V.aP,aJ,aj,PV.cells,List.getD,List.getElem?_take,List.getElem?_drop]
  intro u hu;rw [e] at hu;have key: ∀ j,(aI Tryz.prog 131)[j]? =some 129→dO 16 (aj u j).toList.length=true:=by
   intro j hj;have h3:=h2 u hu j 129 hj;simp only [cellAt,ajS] at h3;obtain ⟨h4,_⟩:=ajg ajR h3;rw [by9] at h4;exact ajL h4
  exact ⟨key 16 ajf.1,key 17 ajf.2.1,key 18 ajf.2.2⟩
theorem LZ {w:World} (hG:Ss Tryz.prog rT (AF w) w) {v:Value} {p:PV} (hv:cu Tryz.prog w (AF w) 37 v p) (G:V.Gen p):
  Calls Tryz.prog 3 ⟨[v]⟩ w fun e w'=>e= .returned (.bool true)∧Below w.heap.size w w':=by
 have hx:Ls Tryz.prog (Ss Tryz.prog rT) ⟨3,[37],[4],cX⟩:=v5;refine (hx.run [p] [.bool true] (Zq p G) w [v] (AF w) (fun _ h=>h) hG rfl ?_).mono ?_
 ·intro j t v' h1 h2
  cases j with
  |zero=>simp at h1 h2; subst h1; subst h2; exact hv
  |succ j=>simp at h1
 ·rintro e w' ⟨us,u,Z',rfl,hb,hr,_,_,_,hl,_,Dy⟩
  obtain ⟨u0,rfl⟩: ∃ u0,us=[u0]:=by
   match us,hl with
   |[q],_=>exact ⟨q,rfl⟩
  have h1:=Dy 0 4 u0 (.bool true) rfl rfl rfl;unfold cu at h1;rw [ah0] at h1;have h2:u0= .bool true:=by
   cases h1 with
   |bool=>rfl
  subst h2;refine ⟨?_,hb⟩;rcases hr with h|⟨h,_⟩
  ·rw [List.cons.inj h |>.1]
  ·exact absurd rfl (h _)
end
end Go.Sy
