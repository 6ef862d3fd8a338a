/- . -/
import Derived.Test.YtjodhcdmhobmoaaGreatDoorWQ2b
set_option linter.unusedVariables false
set_option linter.unusedSimpArgs false
namespace Go.Proofs.YtjodhcdmhobmoaaGreatDoor
open Go Go.Proofs.YtjodhcdmhobmoaaGreatDoor.Le
set_option linter.defProp false
set_option maxRecDepth 100000
set_option maxHeartbeats 40000000
open Go Go.Proofs.YtjodhcdmhobmoaaGreatDoor.Le Go.Proofs.YtjodhcdmhobmoaaGreatDoor.Na
theorem IJ:(∀(q:CW) (z:Bool),∃r,Z0n q z=some r/\r.C9=q.C9/\r.EJ=0) /\
  (∀(q z:Int),∃r,bM q z=some r/\R16 r) /\
  (∀(q:Jm),∃r,lX q=some r/\True) /\
  (∀(q:RP),∃r,Pg q=some r/\True) /\
  (∀(q:Int),∃r,Tc q=some r/\((r=true->q=0\/q=1))) /\
  (∀(q:Int) (z:BC),Hr z->∃r,Z0u q z=some r/\True) /\
  (∀(q:AO),∃r,mQ q=some r/\r=⟨q.Kind,q.DZ,q.BL,q.Map⟩) /\
  (∀(q:AO) (z:BD),Bh 7 0 z->∃r,Z9 q z=some r/\r.q0.AA=z.AA/\r.q0.f_out.length=z.f_out.length+1/\r.q0.BG=z.BG/\r.q0.FX=z.FX) /\
  (∀(k:Int) (q:Ad),Ba k q->0<=k->k<=1000000->∃r,oQ q=some r/\True) /\
  (∀(q:List BO),q.length<=37->∃r,Z0M q=some r/\r.q0.length<=37) /\
  (∀(q:Int),∃r,Z15 q=some r/\((Gm q->r.C9=q)/\Gm r.C9/\r.EJ=0)) /\
  (∀(k:Int) (q:Int) (z:List Au) (C:BQ),(z.length<=3/\IE z)->(Ba k C.Link/\C.Ak.length<=30)->0<=k->k<=1000000->∃r,l9 q z C=some r/\Ba k r.q0.Link/\r.q0.Link=C.Link/\r.q0.Ak.length<=C.Ak.length+z.length) /\
  (∀(q z C:Int),∃r,V9 q z C=some r/\True) /\
  (∀(q:Az),∃r,Vb q=some r/\True) /\
  (∀(q:Bq) (z C:Bool),FN q->∃r,oW q z C=some r/\FN r) /\
  (∀(k:Int) (q:Int) (z:List Au) (C:BQ),(z.length<=3/\IE z)->(Ba k C.Link/\C.Ak.length<=30)->0<=k->k<=1000000->∃r,Zg q z C=some r/\Ba k r.q0.Link/\r.q0.Link=C.Link/\r.q0.Ak.length<=C.Ak.length+z.length) /\
  (∀(q:Bq) (z C:Bool),FN q->∃r,oV q z C=some r/\FN r) /\
  (∀(k:Int) (q:Int) (z:List Au) (C:BQ),(z.length<=3/\IE z)->(Ba k C.Link/\C.Ak.length<=30)->0<=k->k<=1000000->∃r,lV q z C=some r/\Ba k r.q0.Link/\r.q0.Link=C.Link/\r.q0.Ak.length<=C.Ak.length+z.length) /\
  (∀(k:Int) (q:Int) (z:List Au) (C:BQ),(z.length<=3/\IE z)->(Ba k C.Link/\C.Ak.length<=30)->0<=k->k<=1000000->∃r,Zd q z C=some r/\Ba k r.q0.Link/\r.q0.Link=C.Link/\r.q0.Ak.length<=C.Ak.length+z.length) /\
  (∀(q:AO) (z:BD),Bh 1 1 z->∃r,O5 q z=some r/\Bh 2 1 r.q0) /\
  (∀(q:AO) (z:BD),CV q->Bh 0 0 z->∃r,zO q z=some r/\Bh 2 2 r.q0) /\
  (∀(q z:Int) (C:BD),Bh 0 0 C->∃r,Po q z C=some r/\Bh 0 1 r.q0):=by
 refine⟨fun q z=>CG (True) ?_ fun hp=>?_,
  fun q z=>CG (True) ?_ fun hp=>?_,
  fun q=>CG (True) ?_ fun hp=>?_,
  fun q=>CG (True) ?_ fun hp=>?_,
  fun q=>CG (True) ?_ fun hp=>?_,
  fun q z I=>Bd (fun(p:Yw)=>match p with | .b0 _ A=>Hr A | .b1 _ A=>Hr A) (fun(p:Yw)=>match p with | .b0 ..=>(0,0,1) | .b1 ..=>(0,0,0)) ?_ _ ?_,
  fun q=>CG (True) ?_ fun hp=>?_,
  fun q z I=>Bd (fun(p:YS)=>match p with | .b0 _ A=>Bh 7 0 A/\A=z) (fun(p:YS)=>(0,0,0)) ?_ _ ?_,
  fun k q I M N=>CG (Ba k q) ?_ fun hp=>?_,
  fun q I=>Bd (fun(p:aG)=>match p with | .b0 J=>J.length<=37) (fun(p:aG)=>(0,0,0)) ?_ _ ?_,
  fun q=>CG (True) ?_ fun hp=>?_,
  fun k q z C I M N O=>Bd (fun(p:YY)=>match p with | .b0 _ A D=>A.length<=3/\IE A/\Ba k D.Link/\D.Ak.length<=30/\D=C/\A=z | .b1 _ A D F G=>A.length<=3/\IE A/\Ba k G.Link/\A=z/\G.Link=C.Link/\0<=F/\F<=(A.length:Int)/\D=(A.length:Int)/\(G.Ak.length:Int)<=C.Ak.length+F/\C.Ak.length<=30) (fun(p:YY)=>match p with | .b0 ..=>(1,0,0) | .b1 _ A _ F _=>(0,((A.length:Int) - F).toNat,0)) ?_ _ ?_,
  fun q z C=>CG (True) ?_ fun hp=>?_,
  fun q=>CG (True) ?_ fun hp=>?_,
  fun q z C I=>Bd (fun(p:aI)=>match p with | .b0 J _ _=>FN J | .b1 _ A _=>FN A | .b2 _ A _=>FN A | .b3 J _=>FN J) (fun(p:aI)=>match p with | .b0 ..=>(0,0,3) | .b1 ..=>(0,0,2) | .b2 ..=>(0,0,1) | .b3 ..=>(0,0,0)) ?_ _ ?_,
  fun k q z C I M N O=>Bd (fun(p:YW)=>match p with | .b0 _ A D=>A.length<=3/\IE A/\Ba k D.Link/\D.Ak.length<=30/\D=C/\A=z | .b1 _ A D F G=>A.length<=3/\IE A/\Ba k G.Link/\A=z/\G.Link=C.Link/\0<=F/\F<=(A.length:Int)/\D=(A.length:Int)/\(G.Ak.length:Int)<=C.Ak.length+F/\C.Ak.length<=30) (fun(p:YW)=>match p with | .b0 ..=>(1,0,0) | .b1 _ A _ F _=>(0,((A.length:Int) - F).toNat,0)) ?_ _ ?_,
  fun q z C I=>CG (FN q) ?_ fun hp=>?_,
  fun k q z C I M N O=>Bd (fun(p:YX)=>match p with | .b0 _ A D=>A.length<=3/\IE A/\Ba k D.Link/\D.Ak.length<=30/\D=C/\A=z | .b1 _ A D F G=>A.length<=3/\IE A/\Ba k G.Link/\A=z/\G.Link=C.Link/\0<=F/\F<=(A.length:Int)/\D=(A.length:Int)/\(G.Ak.length:Int)<=C.Ak.length+F/\C.Ak.length<=30) (fun(p:YX)=>match p with | .b0 ..=>(1,0,0) | .b1 _ A _ F _=>(0,((A.length:Int) - F).toNat,0)) ?_ _ ?_,
  fun k q z C I M N O=>Bd (fun(p:Y0)=>match p with | .b0 _ A D=>A.length<=3/\IE A/\Ba k D.Link/\D.Ak.length<=30/\D=C/\A=z | .b1 _ A D F G=>A.length<=3/\IE A/\Ba k G.Link/\A=z/\G.Link=C.Link/\0<=F/\F<=(A.length:Int)/\D=(A.length:Int)/\(G.Ak.length:Int)<=C.Ak.length+F/\C.Ak.length<=30) (fun(p:Y0)=>match p with | .b0 ..=>(1,0,0) | .b1 _ A _ F _=>(0,((A.length:Int) - F).toNat,0)) ?_ _ ?_,
  fun q z I=>Bd (fun(p:YM)=>match p with | .b0 _ A=>Bh 1 1 A) (fun(p:YM)=>(0,0,0)) ?_ _ ?_,
  fun q z I M=>Bd (fun(p:YF)=>match p with | .b0 J A=>CV J/\Bh 0 0 A) (fun(p:YF)=>(0,0,0)) ?_ _ ?_,
  fun q z C I=>Bd (fun(p:YT)=>match p with | .b0 _ _ D=>Bh 0 0 D) (fun(p:YT)=>(0,0,0)) ?_ _ ?_⟩
 all_goals try (intro p hp;cases p)
 all_goals
  try dsimp only at hp
  try exact False.elim hp
  try have S:=hp
  try dsimp only[BV,Cm,BF,DW,Be,ES,EW,EE,Ba,Ed,Bh]at S
  try (repeat with_reducible (have Y:=And.left hp;replace hp:=And.right hp))
  try simp only[Z95,Zcq,Z7h,Z5Z,Z7r,Z9u,Z8b,Z6q,Zak,Zab,Zaz,Z6R,Z9d,Z0A,Zal,Z6X,Zae,Z6Q,Z73,Z5W,Z5D,Z6E]
  try dsimp only
  repeat' first|(refine D9 ?_;dsimp only;try simp(disch:=omega) only[Bv,Bi,List.nil_append,List.drop_zero])|(refine EN (fun h=>?_) (fun h=>?_)<;>(try simp only[Fe,reduceCtorEq]at h;try simp(disch:=omega) only[Bv]at h))|refine Dq ?_ ?_|refine GN ?_|refine Am (Z9f _ _) fun(v:Bool) hm Q=>?_|refine Am (ZdV _ _ _ ?_ ?_) fun(v:(Int×Int)) hm Q=>?_|refine Am (Z7C _ ?_) fun(v:Kv) hm Q=>?_|refine Z3I ?_ fun v Q=>?_|with_reducible apply And.intro|rfl|assumption|exact True.intro|omega|exact decide_eq_true (GG _).1|exact Fz (by assumption) (by omega)|exact Fh (by assumption) (by omega) |  exact GM (by assumption) (by omega)|(refine ET.2 ?_;first|omega|grind)|(apply GX;first|omega|(simp only[Bi];omega))|(simp only[Dp,Bi,Cb,maxLen_eq,kL,kA]<;>omega)|(simp(disch:=omega) only[Bv,decide_eq_true_eq,bne_iff_ne,ne_eq];(repeat' split)<;>omega)|(simp[Di,Eu];done)|grind|(simp only[Dp,Bi,Cb,maxLen_eq,kL,kA]<;>grind)|grind [EG]
def ZoL:=IJ.1
def Zcj:=IJ.2.1
def Z7c:=IJ.2.2.1
def Z67:=IJ.2.2.2.1
def Z7w:=IJ.2.2.2.2.1
def Zpp:=IJ.2.2.2.2.2.1
def Znx:=IJ.2.2.2.2.2.2.1
def Zkn:=IJ.2.2.2.2.2.2.2.1
def Z9R:=IJ.2.2.2.2.2.2.2.2.1
def Zre:=IJ.2.2.2.2.2.2.2.2.2.1
def Zsz:=IJ.2.2.2.2.2.2.2.2.2.2.1
def Z77:=IJ.2.2.2.2.2.2.2.2.2.2.2.1
def ZpS:=IJ.2.2.2.2.2.2.2.2.2.2.2.2.1
def Zpy:=IJ.2.2.2.2.2.2.2.2.2.2.2.2.2.1
def Za8:=IJ.2.2.2.2.2.2.2.2.2.2.2.2.2.2.1
def ZkZ:=IJ.2.2.2.2.2.2.2.2.2.2.2.2.2.2.2.1
def Za5:=IJ.2.2.2.2.2.2.2.2.2.2.2.2.2.2.2.2.1
def Z70:=IJ.2.2.2.2.2.2.2.2.2.2.2.2.2.2.2.2.2.1
def Zls:=IJ.2.2.2.2.2.2.2.2.2.2.2.2.2.2.2.2.2.2.1
def Z65:=IJ.2.2.2.2.2.2.2.2.2.2.2.2.2.2.2.2.2.2.2.1
def Zj2:=IJ.2.2.2.2.2.2.2.2.2.2.2.2.2.2.2.2.2.2.2.2.1
def ZkE:=IJ.2.2.2.2.2.2.2.2.2.2.2.2.2.2.2.2.2.2.2.2.2
theorem ZxC:∀(k:Int) (p0:Ad),Ba k p0->0<=k->k<=1000000->∃r,Z2O p0=some r/\r=p0:=by
 refine fun k p0 C D F=>CG (Ba k p0) ?_ fun hp=>?b0
 case' b0=>
  try dsimp only at hp
  have q:=hp
  try dsimp only[BV,Cm,BF,DW,Be,ES,EW,EE,Ba,Ed,Bh]at q
  simp only[Z2D];have A:=hp
  repeat' first|(refine D9 ?_;rfl)|(refine Dq ?_ ?_)|(refine Am (ZnW _ (by omega) (by grind)) (fun(v:List Az) hm z=>?_);subst z)
 all_goals
  try dsimp only at hp
  try exact False.elim hp
  try have q:=hp
  try dsimp only[BV,Cm,BF,DW,Be,ES,EW,EE,Ba,Ed,Bh]at q
  try (repeat with_reducible (have G:=And.left hp;replace hp:=And.right hp))
  try simp only[Z2D]
  try dsimp only
  repeat' first|(refine D9 ?_;dsimp only;try simp(disch:=omega) only[Bv,Bi,List.nil_append,List.drop_zero])|(refine EN (fun h=>?_) (fun h=>?_)<;>(try simp only[Fe,reduceCtorEq]at h;try simp(disch:=omega) only[Bv]at h))|refine Dq ?_ ?_|refine GN ?_|with_reducible apply And.intro|rfl|assumption|exact True.intro|omega|exact decide_eq_true (GG _).1|exact Fz (by assumption) (by omega)|exact Fh (by assumption) (by omega) |  exact GM (by assumption) (by omega)|(refine ET.2 ?_;first|omega|grind)|(apply GX;first|omega|(simp only[Bi];omega))|(simp only[Dp,Bi,Cb,maxLen_eq,kL,kA]<;>omega)|(simp(disch:=omega) only[Bv,decide_eq_true_eq,bne_iff_ne,ne_eq];(repeat' split)<;>omega)|(simp[Di,Eu];done)|grind|(simp only[Dp,Bi,Cb,maxLen_eq,kL,kA]<;>grind)|grind [EG]
theorem II:(∀(q:AZ) (z:Int),BF q->R16 z->∃r,Z0v q z=some r/\(BF r.1/\r.2.length<=1/\EY r.2/\(q.Aq=[]->r.2=[]))) /\
  (∀(q z:Int),∃r,Z0O q z=some r/\R16 r) /\
  (∀(q:List BC) (z:Int) (F:BC),(q.length<=1/\EY q)->Hr F->∃r,pM q z F=some r/\r.1.length<=1/\EY r.1) /\
  (∀(q:Jm),∃r,Ze q=some r/\R16 r) /\
  (∀(q:List BO) (z:Int) (F:Bool),q.length<=37->∃r,Z0x q z F=some r/\r.length<=37) /\
  (∀(q:CW) (z:Int),∃r,Z19 q z=some r/\((Gm z->r.C9=z)/\Gm r.C9/\r.EJ=0)) /\
  (∀(q z F:Int),∃r,nP q z F=some r/\True) /\
  (∀(q:DR),∃r,Z05 q=some r/\True) /\
  (∀(k:Int) (q z:Int) (F:BQ),(Ba k F.Link/\F.Ak.length<=30)->0<=k->k<=1000000->F.Ak.length<=25->∃r,Z09 q z F=some r/\Ba k r.q0.Link/\r.q0.Ak.length<=30/\r.q0.Link.DY=F.Link.DY) /\
  (∀(k:Int) (q z:Int) (F:BQ),(Ba k F.Link/\F.Ak.length<=30)->0<=k->k<=1000000->F.Ak.length<=25->∃r,Z04 q z F=some r/\Ba k r.q0.Link/\r.q0.Ak.length<=30) /\
  (∀(q:AZ) (z:AO),BF q->∃r,Z0g q z=some r/\BF r.1/\r.2=[]) /\
  (∀(q:AO) (z:BD),CV q->Bh 0 0 z->∃r,Z4 q z=some r/\Bh 2 2 r.q0) /\
  (∀(q:AO) (z:BD),CV q->Bh 0 0 z->∃r,zW q z=some r/\Bh 2 2 r.q0) /\
  (∀(q:AO) (z:BD),CV q->Bh 0 0 z->∃r,zS q z=some r/\Bh 2 2 r.q0) /\
  (∀(q:AO) (z:BD),CV q->Bh 0 0 z->∃r,Zn q z=some r/\Bh 2 2 r.q0) /\
  (∀(q:AO) (z:BD),CV q->Bh 0 0 z->∃r,lJ q z=some r/\Bh 2 2 r.q0) /\
  (∀(q:AO) (z:BD),CV q->Bh 0 0 z->∃r,lK q z=some r/\Bh 2 2 r.q0) /\
  (∀(q:AO) (z:BD),CV q->Bh 0 0 z->∃r,zT q z=some r/\Bh 2 2 r.q0) /\
  (∀(q:AO) (z:BD),CV q->Bh 0 0 z->∃r,zZ q z=some r/\Bh 2 2 r.q0) /\
  (∀(q:AO) (z:BD),CV q->Bh 0 0 z->∃r,Zb q z=some r/\Bh 2 2 r.q0) /\
  (∀(q:AO) (z:BD),CV q->Bh 0 0 z->∃r,zY q z=some r/\Bh 2 2 r.q0) /\
  (∀(q:AO) (z:BD),CV q->Bh 0 0 z->∃r,lM q z=some r/\Bh 2 2 r.q0):=by
 refine⟨fun q z G M=>Bd (fun(p:Yz)=>match p with | .b0 C A=>BF C/\R16 A/\C=q | .b1 _ A=>Bh 0 0 A | .b2 C _ D=>C.length<=1/\EY C/\Bh 0 0 D/\((q.Aq=[]->C=[])) | .b3 _ A=>Bh 0 0 A | .b4 C A D J _ N=>C.length<=1/\EY C/\A.length<=1/\EY A/\Bh 0 0 N/\(0<=J/\J<=(A.length:Int)/\D=(A.length:Int)/\(q.Aq=[]->C=[])) | .b5 C A D J _ N O=>C.length<=1/\EY C/\A.length<=1/\EY A/\Bh 0 0 N/\Hr O/\(0<=J/\J<(A.length:Int)/\D=(A.length:Int)/\(q.Aq=[]->C=[])) | .b6 C A D J _ N=>C.length<=1/\EY C/\A.length<=1/\EY A/\Bh 0 0 N/\(0<=J/\J<(A.length:Int)/\D=(A.length:Int)/\(q.Aq=[]->C=[]))) (fun(p:Yz)=>match p with | .b0 ..=>(2,0,0) | .b1 ..=>(1,0,0) | .b2 ..=>(1,0,1) | .b3 ..=>(0,0,0) | .b4 _ A _ J _ _=>(0,((A.length:Int) - J).toNat,3) | .b5 _ A _ J _ _ _=>(0,((A.length:Int) - J).toNat,2) | .b6 _ A _ J _ _=>(0,((A.length:Int) - J).toNat,1)) ?_ _ ?_,
  fun q z=>CG (True) ?_ fun hp=>?_,
  fun q z F G M=>CG (q.length<=1/\EY q/\Hr F) ?_ fun hp=>?_,
  fun q=>CG (True) ?_ fun hp=>?_,
  fun q z F G=>CG (q.length<=37) ?_ fun hp=>?_,
  fun q z=>CG (True) ?_ fun hp=>?_,
  fun q z F=>CG (True) ?_ fun hp=>?_,
  fun q=>CG (True) ?_ fun hp=>?_,
  fun k q z F G M Q S=>Bd (fun(p:Yh)=>match p with | .b0 _ _ D=>Ba k D.Link/\D.Ak.length<=30/\D=F/\D.Ak.length<=25) (fun(p:Yh)=>(0,0,0)) ?_ _ ?_,
  fun k q z F G M Q S=>Bd (fun(p:Yk)=>match p with | .b0 _ _ D=>Ba k D.Link/\D.Ak.length<=30/\D.Ak.length<=25) (fun(p:Yk)=>(0,0,0)) ?_ _ ?_,
  fun q z G=>Bd (fun(p:Yp)=>match p with | .b0 C _=>BF C | .b1 _ _ D=>Bh 0 0 D | .b2 _ _ D=>Bh 0 0 D | .b3 _ A=>Bh 0 0 A | .b4 _ A=>Bh 0 0 A) (fun(p:Yp)=>match p with | .b0 ..=>(0,0,4) | .b1 ..=>(0,0,3) | .b2 ..=>(0,0,2) | .b3 ..=>(0,0,1) | .b4 ..=>(0,0,0)) ?_ _ ?_,
  fun q z G M=>Bd (fun(p:YR)=>match p with | .b0 C A=>CV C/\Bh 0 0 A | .b1 C A=>Bh 0 0 C/\CV A) (fun(p:YR)=>match p with | .b0 ..=>(0,0,1) | .b1 ..=>(0,0,0)) ?_ _ ?_,
  fun q z G M=>Bd (fun(p:YQ)=>match p with | .b0 C A=>CV C/\Bh 0 0 A | .b1 C A=>Bh 0 0 C/\CV A) (fun(p:YQ)=>match p with | .b0 ..=>(0,0,1) | .b1 ..=>(0,0,0)) ?_ _ ?_,
  fun q z G M=>Bd (fun(p:YI)=>match p with | .b0 _ A=>Bh 0 0 A | .b1 C=>Bh 0 0 C) (fun(p:YI)=>match p with | .b0 ..=>(0,0,1) | .b1 ..=>(0,0,0)) ?_ _ ?_,
  fun q z G M=>Bd (fun(p:Y4)=>match p with | .b0 _ A=>Bh 0 0 A) (fun(p:Y4)=>(0,0,0)) ?_ _ ?_,
  fun q z G M=>Bd (fun(p:YH)=>match p with | .b0 C A=>CV C/\Bh 0 0 A | .b1 C A=>Bh 0 0 C/\CV A | .b2 C A=>Bh 0 0 C/\CV A) (fun(p:YH)=>match p with | .b0 ..=>(0,0,2) | .b1 ..=>(0,0,1) | .b2 ..=>(0,0,0)) ?_ _ ?_,
  fun q z G M=>Bd (fun(p:YG)=>match p with | .b0 C A=>CV C/\Bh 0 0 A | .b1 _ A D=>Bh 0 0 A/\CV D) (fun(p:YG)=>match p with | .b0 ..=>(0,0,1) | .b1 ..=>(0,0,0)) ?_ _ ?_,
  fun q z G M=>Bd (fun(p:YK)=>match p with | .b0 C A=>CV C/\Bh 0 0 A) (fun(p:YK)=>(0,0,0)) ?_ _ ?_,
  fun q z G M=>Bd (fun(p:YN)=>match p with | .b0 C A=>CV C/\Bh 0 0 A) (fun(p:YN)=>(0,0,0)) ?_ _ ?_,
  fun q z G M=>Bd (fun(p:YV)=>match p with | .b0 _ A=>Bh 0 0 A) (fun(p:YV)=>(0,0,0)) ?_ _ ?_,
  fun q z G M=>Bd (fun(p:YP)=>match p with | .b0 _ A=>Bh 0 0 A) (fun(p:YP)=>(0,0,0)) ?_ _ ?_,
  fun q z G M=>Bd (fun(p:YO)=>match p with | .b0 C A=>CV C/\Bh 0 0 A | .b1 _ A D=>Bh 0 0 A/\CV D) (fun(p:YO)=>match p with | .b0 ..=>(0,0,1) | .b1 ..=>(0,0,0)) ?_ _ ?_⟩
 all_goals try (intro p hp;cases p)
 all_goals
  try dsimp only at hp
  try exact False.elim hp
  try have Y:=hp
  try dsimp only[BV,Cm,BF,DW,Be,ES,EW,EE,Ba,Ed,Bh]at Y
  try (repeat with_reducible (have hq:=And.left hp;replace hp:=And.right hp))
  try simp only[Z9C,Za0,Zas,Z79,Z9x,Zbv,Z90,Z8J,Z8p,Z8y,Z98,Z6t,Z6d,Z62,Z7n,Z5N,Z5V,Z60,Z6f,Z6K,Z6k,Z6j]
  try dsimp only
  repeat' first|(refine D9 ?_;dsimp only;try simp(disch:=omega) only[Bv,Bi,List.nil_append,List.drop_zero])|(refine EN (fun h=>?_) (fun h=>?_)<;>(try simp only[Fe,reduceCtorEq]at h;try simp(disch:=omega) only[Bv]at h))|refine Dq ?_ ?_|refine GN ?_|refine Am (Z9U _ _ _ ?_) fun(v:OB) hm I=>?_|refine Am (Zs4 _ _ ?_) fun(v:((List BC)×(List BC))) hm I=>?_|refine Am (Z67 _) fun(v:Bool) hm I=>?_|refine iK ?_ fun v I=>?_|refine Am (Zcj _ _) fun(v:Int) hm I=>?_|refine Am (Zpp _ _ ?_) fun(v:Int) hm I=>?_|refine Am (Zc _ ?_) fun(v:Pn) hm I=>?_|refine Am (Zre _ ?_) fun(v:UM) hm I=>?_|refine Z3U ?_ fun v I=>?_|refine Am (Zsz _) fun(v:CW) hm I=>?_|refine Am (Z7w _) fun(v:Bool) hm I=>?_|refine Am (ZpS _ _ _) fun(v:Int) hm I=>?_|refine Am (Z77 k _ _ _ ?_ ?_ ?_ ?_) fun(v:Pv) hm I=>?_|refine Am (ZkZ k _ _ _ ?_ ?_ ?_ ?_) fun(v:TW) hm I=>?_|refine Am (ZkE _ _ _ ?_) fun(v:Ku) hm I=>?_|refine Am (Z65 _ _ ?_) fun(v:Jj) hm I=>?_|with_reducible apply And.intro|rfl|assumption|exact True.intro|omega|exact decide_eq_true (GG _).1|exact Fz (by assumption) (by omega)|exact Fh (by assumption) (by omega) |  exact GM (by assumption) (by omega)|(refine ET.2 ?_;first|omega|grind)|(apply GX;first|omega|(simp only[Bi];omega))|(simp only[Dp,Bi,Cb,maxLen_eq,kL,kA]<;>omega)|(simp(disch:=omega) only[Bv,decide_eq_true_eq,bne_iff_ne,ne_eq];(repeat' split)<;>omega)|(simp[Di,Eu];done)|grind|(simp only[Dp,Bi,Cb,maxLen_eq,kL,kA]<;>grind)|grind [EG]
def ZpO:=II.1
def ZqA:=II.2.1
def Zsx:=II.2.2.1
def Zln:=II.2.2.2.1
def ZpX:=II.2.2.2.2.1
def Zsp:=II.2.2.2.2.2.1
def Zp5:=II.2.2.2.2.2.2.1
def Zoa:=II.2.2.2.2.2.2.2.1
def ZnT:=II.2.2.2.2.2.2.2.2.1
def Zoe:=II.2.2.2.2.2.2.2.2.2.1
def Zp4:=II.2.2.2.2.2.2.2.2.2.2.1
def Zkq:=II.2.2.2.2.2.2.2.2.2.2.2.1
def Zk8:=II.2.2.2.2.2.2.2.2.2.2.2.2.1
def ZjR:=II.2.2.2.2.2.2.2.2.2.2.2.2.2.1
def Zm6:=II.2.2.2.2.2.2.2.2.2.2.2.2.2.2.1
def Zjx:=II.2.2.2.2.2.2.2.2.2.2.2.2.2.2.2.1
def Zju:=II.2.2.2.2.2.2.2.2.2.2.2.2.2.2.2.2.1
def ZjQ:=II.2.2.2.2.2.2.2.2.2.2.2.2.2.2.2.2.2.1
def Zkg:=II.2.2.2.2.2.2.2.2.2.2.2.2.2.2.2.2.2.2.1
def ZkQ:=II.2.2.2.2.2.2.2.2.2.2.2.2.2.2.2.2.2.2.2.1
def Zk0:=II.2.2.2.2.2.2.2.2.2.2.2.2.2.2.2.2.2.2.2.2.1
def Zkb:=II.2.2.2.2.2.2.2.2.2.2.2.2.2.2.2.2.2.2.2.2.2
end Go.Proofs.YtjodhcdmhobmoaaGreatDoor
