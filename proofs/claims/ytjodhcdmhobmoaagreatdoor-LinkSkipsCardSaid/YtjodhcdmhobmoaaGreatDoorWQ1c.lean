/- . -/
import Derived.Test.YtjodhcdmhobmoaaGreatDoorWQ1b
set_option linter.unusedVariables false
set_option linter.unusedSimpArgs false
namespace Go.Proofs.YtjodhcdmhobmoaaGreatDoor
open Go Go.Proofs.YtjodhcdmhobmoaaGreatDoor.Le
open Go Go.Proofs.YtjodhcdmhobmoaaGreatDoor.Le Go.Proofs.YtjodhcdmhobmoaaGreatDoor.Na
set_option maxRecDepth 100000
set_option maxHeartbeats 2000000
set_option linter.defProp false
set_option maxHeartbeats 40000000
theorem IB:(∀(q A:Int),∃r,Wp q A=some r/\True) /\
  (∀(q:Int),∃r,Z2d q=some r/\True) /\
  (∀(q:DR),∃r,Z1p q=some r/\True) /\
  (∀(q:DR),∃r,Z2s q=some r/\True) /\
  (∀(k:Int) (q:Ad),BV k q->0<=k->k<=1000000->∃r,qZ q=some r/\True) /\
  (∀(q A:Int),∃r,qE q A=some r/\True) /\
  (∀(q:AO),Ce q->∃r,uF q=some r/\Ce r) /\
  (∀(q:DR),∃r,Z0q q=some r/\r.length=9/\Cj r) /\
  (∀(q:BM),∃r,QE q=some r/\((r=0->EG q.SN/\EG q.EI/\EG q.MD/\1<=q.Aw.Bz/\q.Aw.Bz<=3/\(1<=q.Aw.Payload.length\/q.Aw.Bz=1)/\q.Aw.Payload.length<=255))) /\
  (∀(q:BR),Cm q->∃r,Z2x q=some r/\Cm r.1/\r.1.Open=true/\Be r.2.Aw) /\
  (∀(q A I:Int),∃r,qU q A I=some r/\True) /\
  (∀(q:Int) (A I:List Int),A.length<=200000->I.length<=200000->∃r,qY q A I=some r/\r.q0.length<=400100) /\
  (∀(q:Int) (A:List Int),A.length<=1000000->∃r,iC q A=some r/\True) /\
  (∀(q A:Int),0<=A->A<=1000000->∃r,o5 q A=some r/\(r.length:Int)=A/\Cj r) /\
  (∀(q:CW),∃r,Z2w q=some r/\(r.1.C9=q.C9/\(Gm q.C9->Gm q.EJ->Gm r.1.EJ))) /\
  (∀(q A:Int),∃r,qF q A=some r/\True) /\
  (∀(q:CW) (A:Int),∃r,Z2W q A=some r/\((Gm A->r.C9=A)/\Gm r.C9/\r.EJ=0)) /\
  (∀(q:AZ) (A:AO),BF q->Ce A->∃r,uS q A=some r/\True) /\
  (∀(q A:Int),∃r,Z2m q A=some r/\R16 r) /\
  (∀(k:Int) (q:Ad),BV k q->0<=k->k<=1000000->∃r,rO q=some r/\R16 r) /\
  (∀(q A I:Int),∃r,tX q A I=some r/\True) /\
  (∀(q:DR),∃r,Z1e q=some r/\True) /\
  (∀(q:Int),∃r,Z0r q=some r/\True) /\
  (∀(q:AZ) (A:Int),BF q->∃r,Z0Q q A=some r/\True):=by
 refine⟨fun q A=>CG (True) ?_ fun hp=>?_,
  fun q=>CG (True) ?_ fun hp=>?_,
  fun q=>CG (True) ?_ fun hp=>?_,
  fun q=>CG (True) ?_ fun hp=>?_,
  fun k q M O Q=>CG (BV k q) ?_ fun hp=>?_,
  fun q A=>Bd (fun(p:bQ)=>match p with | .b0 ..=>True | .b1 _ _ F=>0<=F/\F<=3) (fun(p:bQ)=>match p with | .b0 ..=>(1,0,0) | .b1 _ _ F=>(0,(3 - F).toNat,0)) ?_ _ ?_,
  fun q M=>Bd (fun(p:fC)=>match p with | .b0 z=>Ce z | .b1 z _ _=>Ce z | .b2 z _ _=>Ce z | .b3 z _ _=>Ce z | .b4 z _ _=>Ce z | .b5 z _ _=>Ce z | .b6 z _ _=>Ce z | .b7 z _ _=>Ce z | .b8 z _ _=>Ce z | .b9 z _ _=>Ce z) (fun(p:fC)=>match p with | .b0 ..=>(0,0,9) | .b1 ..=>(0,0,8) | .b2 ..=>(0,0,7) | .b3 ..=>(0,0,6) | .b4 ..=>(0,0,5) | .b5 ..=>(0,0,4) | .b6 ..=>(0,0,3) | .b7 ..=>(0,0,2) | .b8 ..=>(0,0,1) | .b9 ..=>(0,0,0)) ?_ _ ?_,
  fun q=>CG (True) ?_ fun hp=>?_,
  fun q=>Bd (fun(p:dQ)=>match p with | .b0 z=>z=q | .b1 z=>z=q/\EG z.SN/\EG z.EI/\EG z.MD) (fun(p:dQ)=>match p with | .b0 ..=>(0,0,1) | .b1 ..=>(0,0,0)) ?_ _ ?_,
  fun q M=>Bd (fun(p:eG)=>match p with | .b0 z=>Cm z | .b1 z _ _=>Cm z/\z.Open=true | .b2 _ C _ _ J=>Cm C/\Be J.Aw/\C.Open=true/\C.Empty=false | .b3 _ C _ _ J=>Cm C/\Be J.Aw/\C.Open=true | .b4 z _ _ G=>Cm z/\Be G.Aw/\z.Open=true) (fun(p:eG)=>match p with | .b0 ..=>(0,0,4) | .b1 ..=>(0,0,3) | .b2 ..=>(0,0,2) | .b3 ..=>(0,0,1) | .b4 ..=>(0,0,0)) ?_ _ ?_,
  fun q A I=>CG (True) ?_ fun hp=>?_,
  fun q A I M O=>Bd (fun(p:dF)=>match p with | .b0 _ C F=>C.length<=200000/\F.length<=200000) (fun(p:dF)=>(0,0,0)) ?_ _ ?_,
  fun q A M=>Bd (fun(p:gV)=>match p with | .b0 _ C=>C.length<=1000000 | .b1 z _ F=>0<=F/\F<=(z.length:Int)/\z.length<=1000000 | .b2 z _ F _ J=>0<=F/\F<(z.length:Int)/\z.length<=1000000/\0<=J/\J<=8) (fun(p:gV)=>match p with | .b0 ..=>(2,0,0) | .b1 z _ F=>(1,((z.length:Int) - F).toNat,9) | .b2 z _ F _ J=>(1,((z.length:Int) - F).toNat,(8 - J).toNat)) ?_ _ ?_,
  fun q A M O=>Bd (fun(p:aH)=>match p with | .b0 _ C=>C=A/\0<=C/\C<=1000000 | .b1 z C _ G=>z=A/\z<=1000000/\0<=G/\G<=z/\(C.length:Int)=G/\Cj C | .b2 z C _ G _ _ N=>z=A/\z<=1000000/\0<=G/\G<z/\(C.length:Int)=G/\Cj C/\0<=N/\N<=8) (fun(p:aH)=>match p with | .b0 ..=>(2,0,0) | .b1 z _ _ G=>(1,(z - G).toNat,9) | .b2 z _ _ G _ _ N=>(1,(z - G).toNat,(8 - N).toNat)) ?_ _ ?_,
  fun q=>CG (True) ?_ fun hp=>?_,
  fun q A=>CG (True) ?_ fun hp=>?_,
  fun q A=>CG (True) ?_ fun hp=>?_,
  fun q A M O=>CG (BF q/\Ce A) ?_ fun hp=>?_,
  fun q A=>CG (True) ?_ fun hp=>?_,
  fun k q M O Q=>CG (BV k q) ?_ fun hp=>?_,
  fun q A I=>CG (True) ?_ fun hp=>?_,
  fun q=>CG (True) ?_ fun hp=>?_,
  fun q=>CG (True) ?_ fun hp=>?_,
  fun q A M=>Bd (fun(p:aQ)=>match p with | .b0 z _=>BF z | .b1 _ C=>BF C | .b2 _ C=>BF C) (fun(p:aQ)=>match p with | .b0 ..=>(0,0,2) | .b1 ..=>(0,0,1) | .b2 ..=>(0,0,0)) ?_ _ ?_⟩
 all_goals try (intro p hp;cases p)
 all_goals
  try dsimp only at hp
  try exact False.elim hp
  try have S:=hp
  try dsimp only[BV,Cm,BF,DW,Be,ES,EW,EE,Ba,Ed,Bh]at S
  try (repeat with_reducible (have Y:=And.left hp;replace hp:=And.right hp))
  try simp only[Z3i,ZcY,ZbE,Ze3,Zdy,ZbU,Ht,Z9B,dR,ZdQ,Z22,Z1S,NC,MF,Ze0,ZbC,Zf4,Zfo,ZeA,Zdt,ZdP,ZaU,Z9n,Zbu]
  try dsimp only
  repeat' first|(refine D9 ?_;dsimp only;try simp(disch:=omega) only[Bv,Bi,List.nil_append,List.drop_zero])|(refine EN (fun h=>?_) (fun h=>?_)<;>(try simp only[Fe,reduceCtorEq]at h;try simp(disch:=omega) only[Bv]at h))|refine Dq ?_ ?_|refine GN ?_|refine Am (Z2c _ ?_ ?_) fun(v:Int) hm D=>?_|refine Am (Zsk _ _ _) fun(v:Int) hm D=>?_|refine Am (ZzA _ ?_) fun(v:Bool) hm D=>?_|refine Am (Zyp _ _) fun(v:Bool) hm D=>?_|refine Am (ZqO _) fun(v:Int) hm D=>?_|refine Am (bH _) fun(v:CP) hm D=>?_|refine Am (Zfy _ _ ?_ ?_) fun(v:JH) hm D=>?_|refine Am (ZAv _) fun(v:Bool) hm D=>?_|refine Am (Zo8 _) fun(v:Int) hm D=>?_|refine Am (ZwS) fun(v:Az) hm D=>?_|refine Z47 ?_ fun v D=>?_|refine Am (ZBq _ _) fun(v:Int) hm D=>?_|refine Am (Zyx _ _ ?_ ?_) fun(v:Int) hm D=>?_|refine Am (Z3b _ _ ?_ ?_) fun(v:La) hm D=>?_|refine Qd ?_ fun v D=>?_|refine Am (ZA9 _ _) fun(v:Int) hm D=>?_|refine Am (Zx2 _) fun(v:Int) hm D=>?_|refine Am (ZA1 _) fun(v:Int) hm D=>?_|exact fun x y=>ZCC (D h) x y|refine Am (ZyH _ _) fun(v:Int) hm D=>?_|refine Am (Zf1 _) fun(v:CW) hm D=>?_|refine Am (Zdi _) fun(v:Bool) hm D=>?_|refine Am (ZAI _ _) fun(v:Int) hm D=>?_|refine Am (ZpA _) fun(v:Int) hm D=>?_|refine Am (Zv4 _ _ ?_) fun(v:Bool) hm D=>?_|with_reducible apply And.intro|rfl|assumption|exact True.intro|omega|exact decide_eq_true (GG _).1|exact Fz (by assumption) (by omega)|exact Fh (by assumption) (by omega) |  exact GM (by assumption) (by omega)|(refine ET.2 ?_;first|omega|grind)|(apply GX;first|omega|(simp only[Bi];omega))|(simp only[Dp,Bi,Cb,maxLen_eq,kL,kA]<;>omega)|(simp(disch:=omega) only[Bv,decide_eq_true_eq,bne_iff_ne,ne_eq];(repeat' split)<;>omega)|(simp[Di,Eu];done)|grind|(simp only[Dp,Bi,Cb,maxLen_eq,kL,kA]<;>grind)|grind [EG]
def Zfc:=IB.1
def Zv9:=IB.2.1
def Ztk:=IB.2.2.1
def ZxI:=IB.2.2.2.1
def Zdb:=IB.2.2.2.2.1
def Zcl:=IB.2.2.2.2.2.1
def ZpU:=IB.2.2.2.2.2.2.2.1
def Z1O:=IB.2.2.2.2.2.2.2.2.1
def ZzF:=IB.2.2.2.2.2.2.2.2.2.1
def ZwZ:=IB.2.2.2.2.2.2.2.2.2.2.1
def Zwe:=IB.2.2.2.2.2.2.2.2.2.2.2.1
def ZCi:=IB.2.2.2.2.2.2.2.2.2.2.2.2.1
def Zqm:=IB.2.2.2.2.2.2.2.2.2.2.2.2.2.1
def ZzG:=IB.2.2.2.2.2.2.2.2.2.2.2.2.2.2.1
def Ztd:=IB.2.2.2.2.2.2.2.2.2.2.2.2.2.2.2.1
def ZB1:=IB.2.2.2.2.2.2.2.2.2.2.2.2.2.2.2.2.1
def ZBY:=IB.2.2.2.2.2.2.2.2.2.2.2.2.2.2.2.2.2.1
def Zxs:=IB.2.2.2.2.2.2.2.2.2.2.2.2.2.2.2.2.2.2.1
def Zwi:=IB.2.2.2.2.2.2.2.2.2.2.2.2.2.2.2.2.2.2.2.1
def ZyZ:=IB.2.2.2.2.2.2.2.2.2.2.2.2.2.2.2.2.2.2.2.2.1
def ZrK:=IB.2.2.2.2.2.2.2.2.2.2.2.2.2.2.2.2.2.2.2.2.2.1
def ZpJ:=IB.2.2.2.2.2.2.2.2.2.2.2.2.2.2.2.2.2.2.2.2.2.2.1
def ZrJ:=IB.2.2.2.2.2.2.2.2.2.2.2.2.2.2.2.2.2.2.2.2.2.2.2
theorem OM:(∀(z:AZ) (C:Bool) (G:Int),BF z->CO G->∃r,Z1A z C G=some r/\BF r.1/\r.2.length<=2/\F6 r.2) /\
  (∀(z:BO),∃r,fA z=some r/\True) /\
  (∀(z:List Int),z.length<=37->IZ z->∃r,Z3A z=some r/\CO r) /\
  (∀(z:List BO),z.length<=37->∃r,Z26 z=some r/\r.length<=37) /\
  (∀(z:List Int) (C:Int),0<=C->C+9<=(z.length:Int)->z.length<=1000000->∃r,nU z C=some r/\True) /\
  (∀(z:AZ) (C:AO),BF z->Ce C->∃r,Z2P z C=some r/\BF r.1/\r.2.length<=1) /\
  (∀(z:AZ) (C:AO) (G:Int),BF z->Ce C->∃r,ZU z C G=some r/\BF r.1/\r.2.1.length<=8/\F6 r.2.1/\r.2.2.length<=1) /\
  (∀(z:AZ) (C:AO),BF z->Ce C->∃r,ZK z C=some r/\BF r.1/\r.2.1.length<=8/\F6 r.2.1/\r.2.2.length<=1) /\
  (∀(z:AZ) (C:AO) (G:Int),BF z->Ce C->∃r,ZQ z C G=some r/\BF r.1/\r.2.1.length<=8/\F6 r.2.1/\r.2.2.length<=1) /\
  (∀(z:AZ) (C:AO),BF z->Ce C->∃r,ZA z C=some r/\BF r.1/\r.2.1.length<=8/\F6 r.2.1/\r.2.2.length<=1) /\
  (∀(z:AZ) (C:AO),BF z->Ce C->∃r,Z0f z C=some r/\BF r.1/\r.2.1.length<=8/\F6 r.2.1/\r.2.2.length<=1):=by
 refine⟨fun z C G F I=>Bd (fun(p:bC)=>match p with | .b0 q _ D=>BF q/\CO D | .b1 _ A D _=>BF D/\CO A) (fun(p:bC)=>match p with | .b0 ..=>(0,0,1) | .b1 ..=>(0,0,0)) ?_ _ ?_,
  fun z=>CG (True) ?_ fun hp=>?_,
  fun z F I=>Bd (fun(p:iL)=>match p with | .b0 q=>q.length<=37/\IZ q | .b1 q A D=>q.length<=37/\(IZ q)/\0<=D/\D<=(q.length:Int)/\CO A) (fun(p:iL)=>match p with | .b0 ..=>(1,0,0) | .b1 q _ D=>(0,((q.length:Int) - D).toNat,0)) ?_ _ ?_,
  fun z F=>Bd (fun(p:eF)=>match p with | .b0 q=>q.length<=37 | .b1 q A D=>q.length<=37/\A.length<=37/\0<=D/\D<=(q.length:Int)/\(A.length:Int)=D) (fun(p:eF)=>match p with | .b0 ..=>(1,0,0) | .b1 q _ D=>(0,((q.length:Int) - D).toNat,0)) ?_ _ ?_,
  fun z C F I N=>CG (0<=C/\C+9<=(z.length:Int)/\z.length<=1000000) ?_ fun hp=>?_,
  fun z C F I=>Bd (fun(p:fG)=>match p with | .b0 q A=>BF q/\Ce A | .b1 q A _=>BF q/\Ce A | .b2 q A _=>BF q/\Ce A | .b3 q _=>BF q) (fun(p:fG)=>match p with | .b0 ..=>(0,0,3) | .b1 ..=>(0,0,2) | .b2 ..=>(0,0,1) | .b3 ..=>(0,0,0)) ?_ _ ?_,
  fun z C G F I=>Bd (fun(p:Yf)=>match p with | .b0 q A _=>BF q/\Ce A | .b1 _ A D _=>BF A/\Ce D | .b2 _ A D _=>BF A/\Ce D | .b3 q A _=>BF q/\Ce A | .b4 _ A D _=>BF A/\Ce D | .b5 q _=>BF q | .b6 q _=>BF q | .b7 _ A D _=>BF A/\Ce D | .b8 _ A _=>BF A) (fun(p:Yf)=>match p with | .b0 ..=>(0,0,4) | .b2 ..=>(0,0,3) | .b3 ..=>(0,0,1) | .b4 ..=>(0,0,2) | .b7 ..=>(0,0,1)|_=>(0,0,0)) ?_ _ ?_,
  fun z C F I=>Bd (fun(p:Y8)=>match p with | .b0 q A=>BF q/\Ce A | .b1 q _=>BF q | .b2 q A _=>BF q/\Ce A | .b3 q A _=>BF q/\Ce A) (fun(p:Y8)=>match p with | .b0 ..=>(0,0,2) | .b2 ..=>(0,0,1)|_=>(0,0,0)) ?_ _ ?_,
  fun z C G F I=>CG (BF z/\Ce C) ?_ fun hp=>?_,
  fun z C F I=>Bd (fun(p:Y7)=>match p with | .b0 q A=>BF q/\Ce A | .b1 q _=>BF q | .b2 q A _=>BF q/\Ce A) (fun(p:Y7)=>match p with | .b0 ..=>(0,0,1)|_=>(0,0,0)) ?_ _ ?_,
  fun z C F I=>Bd (fun(p:Yq)=>match p with | .b0 q A=>BF q/\Ce A | .b1 q A _=>BF q/\Ce A | .b2 q A _=>BF q/\Ce A | .b3 q _=>BF q | .b4 q _=>BF q) (fun(p:Yq)=>match p with | .b0 ..=>(0,0,2) | .b2 ..=>(0,0,1)|_=>(0,0,0)) ?_ _ ?_⟩
 all_goals try (intro p hp;cases p)
 all_goals
  try dsimp only at hp
  try exact False.elim hp
  try have M:=hp
  try dsimp only[BV,Cm,BF,DW,Be,ES,EW,EE,Ba,Ed,Bh]at M
  try (repeat with_reducible (have O:=And.left hp;replace hp:=And.right hp))
  try simp only[Zc7,ZeV,ZgD,Zd3,Z0l,ZeW,Z8r,Z8k,Z7S,Z7Y,Z8Z]
  try dsimp only
  repeat' first|(refine D9 ?_;dsimp only;try simp(disch:=omega) only[Bv,Bi,List.nil_append,List.drop_zero])|(refine EN (fun h=>?_) (fun h=>?_)<;>(try simp only[Fe,reduceCtorEq]at h;try simp(disch:=omega) only[Bv]at h))|refine Dq ?_ ?_|refine GN ?_|refine Am (Zf7 _) fun(v:(List AO)) hm J=>?_|refine Am (Zcx _) fun(v:Int) hm J=>?_|refine Am (Z2c _ ?_ ?_) fun(v:Int) hm J=>?_|refine ZhA ?_ fun v J=>?_|refine Z3U ?_ fun v J=>?_|refine Am (Z3q _ _ _ ?_ ?_ ?_ ?_ ?_) fun(v:Int) hm J=>?_|refine Am (Zdi _) fun(v:Bool) hm J=>?_|refine Am (ZxJ _ _) fun(v:(List Au)) hm J=>?_|with_reducible apply And.intro|rfl|assumption|exact True.intro|omega|exact decide_eq_true (GG _).1|exact Fz (by assumption) (by omega)|exact Fh (by assumption) (by omega) |  exact GM (by assumption) (by omega)|(refine ET.2 ?_;first|omega|grind)|(apply GX;first|omega|(simp only[Bi];omega))|(simp only[Dp,Bi,Cb,maxLen_eq,kL,kA]<;>omega)|(simp(disch:=omega) only[Bv,decide_eq_true_eq,bne_iff_ne,ne_eq];(repeat' split)<;>omega)|(simp[Di,Eu];done)|grind|(simp only[Dp,Bi,Cb,maxLen_eq,kL,kA]<;>grind)|grind [EG]
def Ztf:=OM.1
def Zea:=OM.2.1
def ZCF:=OM.2.2.1
def Zvl:=OM.2.2.2.1
def Z8S:=OM.2.2.2.2.1
def ZzT:=OM.2.2.2.2.2.1
def Zog:=OM.2.2.2.2.2.2.1
def Zmw:=OM.2.2.2.2.2.2.2.1
def Zmj:=OM.2.2.2.2.2.2.2.2.1
def Znm:=OM.2.2.2.2.2.2.2.2.2.1
def ZoJ:=OM.2.2.2.2.2.2.2.2.2.2
end Go.Proofs.YtjodhcdmhobmoaaGreatDoor
