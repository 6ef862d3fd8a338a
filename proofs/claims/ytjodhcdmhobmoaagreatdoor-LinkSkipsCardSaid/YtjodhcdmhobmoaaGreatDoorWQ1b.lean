/- . -/
import Derived.Test.YtjodhcdmhobmoaaGreatDoorWQ1a
set_option linter.unusedVariables false
set_option linter.unusedSimpArgs false
namespace Go.Proofs.YtjodhcdmhobmoaaGreatDoor
open Go Go.Proofs.YtjodhcdmhobmoaaGreatDoor.Le
open Go Go.Proofs.YtjodhcdmhobmoaaGreatDoor.Le Go.Proofs.YtjodhcdmhobmoaaGreatDoor.Na
set_option maxRecDepth 100000
set_option maxHeartbeats 2000000
set_option linter.defProp false
set_option maxHeartbeats 40000000
theorem IA:(∀(q z G:Int),∃r,Oc q z G=some r/\True) /\
  (∀(q z G:Int),∃r,Vp q z G=some r/\True) /\
  (∃r,Z2V=some r/\(r=KJ)) /\
  (∀(q:Int),∃r,uY q=some r/\((Gm q->r.C9=q)/\Gm r.C9/\r.EJ=0)) /\
  (∀(q z G:Int),CO z->∃r,Z3f q z G=some r/\BF r) /\
  (∃r,Z1Z=some r/\(r.length<=37)) /\
  (∀(q:CW) (z:Bool),∃r,tC q z=some r/\((r=false->q.EJ<q.C9))) /\
  (∀(q:BR),Cm q->∃r,Z2I q=some r/\True) /\
  (∀(q:Int),∃r,oL q=some r/\True) /\
  (∀(q:Int),∃r,rD q=some r/\True) /\
  (∀(q z:Int),∃r,Z2T q z=some r/\True) /\
  (∀(q:AZ),BF q->∃r,qV q=some r/\True) /\
  (∀(q:Int),∃r,Z10 q=some r/\True) /\
  (∀(q:Int),∃r,DU q=some r/\Di r) /\
  (∀(q:Int),∃r,Vr q=some r/\True) /\
  (∀(q z:Int),0<=z->z<=8->∃r,NF q z=some r/\(r.q0.length:Int)=z/\Cj r.q0) /\
  (∀(q:Int),∃r,Wi q=some r/\((r=true->EG q))) /\
  (∀(q:Az),∃r,nI q=some r/\((r=0->1<=q.Bz/\q.Bz<=3/\(1<=q.Payload.length\/q.Bz=1)/\q.Payload.length<=255))) /\
  (∀(q:Az),∃r,aO q=some r/\((r=false->q.Bz=1->1<=q.Payload.length))) /\
  (∃r,Z2k=some r/\(r=⟨1,[]⟩)) /\
  (∀(q:Az),∃r,UU q=some r/\((r=false->q.Bz=1->1<=q.Payload.length))) /\
  (∀(q:BM) (z:List Int),∃r,fH q z=some r/\r = { q with Aw:={ q.Aw with Payload:=z } }) /\
  (∀(q z:Int),0<=z->z<=32->∃r,Oj q z=some r/\True) /\
  (∀(q z:Int),0<=q->q<=8->∃r,ND q z=some r/\(r.q0.length:Int)=q/\Cj r.q0):=by
 refine⟨fun q z G=>CG (True) ?_ fun hp=>?_,
  fun q z G=>CG (True) ?_ fun hp=>?_,
  CG (True) ?_ fun hp=>?_,
  fun q=>CG (True) ?_ fun hp=>?_,
  fun q z G I=>CG (CO z) ?_ fun hp=>?_,
  CG (True) ?_ fun hp=>?_,
  fun q z=>CG (True) ?_ fun hp=>?_,
  fun q I=>CG (Cm q) ?_ fun hp=>?_,
  fun q=>Bd (fun(p:aC)=>match p with | .b0 ..=>True | .b1 _ _ F=>0<=F/\F<=8) (fun(p:aC)=>match p with | .b0 ..=>(1,0,0) | .b1 _ _ F=>(0,(8 - F).toNat,0)) ?_ _ ?_,
  fun q=>CG (True) ?_ fun hp=>?_,
  fun q z=>CG (True) ?_ fun hp=>?_,
  fun q I=>CG (BF q) ?_ fun hp=>?_,
  fun q=>CG (True) ?_ fun hp=>?_,
  fun q=>Bd (fun(p:bG)=>True) (fun(p:bG)=>match p with | .b0 ..=>(0,0,3) | .b2 ..=>(0,0,2) | .b4 ..=>(0,0,1)|_=>(0,0,0)) ?_ _ ?_,
  fun q=>CG (True) ?_ fun hp=>?_,
  fun q z I J=>Bd (fun(p:gG)=>match p with | .b0 _ D=>D=z/\0<=D/\D<=8 | .b1 _ D F C=>D=z/\0<=D/\D<=8/\0<=C/\C<=D/\(F.length:Int)=C/\Cj F) (fun(p:gG)=>match p with | .b0 ..=>(1,0,0) | .b1 _ D _ C=>(0,(D - C).toNat,0)) ?_ _ ?_,
  fun q=>CG (q=q) ?_ fun hp=>?_,
  fun q=>Bd (fun(p:Yn)=>match p with | .b0 A=>A=q | .b1 A=>A=q/\1<=A.Bz/\A.Bz<=3 | .b2 A=>(A=q/\1<=A.Bz/\A.Bz<=3/\(1<=A.Payload.length\/A.Bz=1))) (fun(p:Yn)=>match p with | .b0 ..=>(0,0,2) | .b1 ..=>(0,0,1) | .b2 ..=>(0,0,0)) ?_ _ ?_,
  fun q=>CG (q=q) ?_ fun hp=>?_,
  CG (True) ?_ fun hp=>?_,
  fun q=>CG (q=q) ?_ fun hp=>?_,
  fun q z=>CG (q=q/\z=z) ?_ fun hp=>?_,
  fun q z I J=>CG (0<=z/\z<=32) ?_ fun hp=>?_,
  fun q z I J=>Bd (fun(p:gB)=>match p with | .b0 A _=>A=q/\0<=A/\A<=8 | .b1 A _ F C=>A=q/\0<=A/\A<=8/\0<=C/\C<=A/\(F.length:Int)=C/\Cj F) (fun(p:gB)=>match p with | .b0 ..=>(1,0,0) | .b1 A _ _ C=>(0,(A - C).toNat,0)) ?_ _ ?_⟩
 all_goals try (intro p hp;cases p)
 all_goals
  try dsimp only at hp
  try exact False.elim hp
  try have M:=hp
  try dsimp only[BV,Cm,BF,DW,Be,ES,EW,EE,Ba,Ed,Bh]at M
  try (repeat with_reducible (have N:=And.left hp;replace hp:=And.right hp))
  try simp only[Z1o,ZaO,ZfQ,Zff,Zfp,ZcF,Zen,ZeQ,Zag,Zd0,ZdN,ZcR,ZaJ,Oe,Z1q,Zfd,Z3e,UH,Z1d,ZdF,Z21,ZeD,Zeh,WX]
  try dsimp only
  repeat' first|(refine D9 ?_;dsimp only;try simp(disch:=omega) only[Bv,Bi,List.nil_append,List.drop_zero])|(refine EN (fun h=>?_) (fun h=>?_)<;>(try simp only[Fe,reduceCtorEq]at h;try simp(disch:=omega) only[Bv]at h))|refine Dq ?_ ?_|refine GN ?_|with_reducible apply And.intro|rfl|assumption|exact True.intro|omega|exact decide_eq_true (GG _).1|exact Fz (by assumption) (by omega)|exact Fh (by assumption) (by omega) |  exact GM (by assumption) (by omega)|(refine ET.2 ?_;first|omega|grind)|(apply GX;first|omega|(simp only[Bi];omega))|(simp only[Dp,Bi,Cb,maxLen_eq,kL,kA]<;>omega)|(simp(disch:=omega) only[Bv,decide_eq_true_eq,bne_iff_ne,ne_eq];(repeat' split)<;>omega)|(simp[Di,Eu];done)|grind|(simp only[Dp,Bi,Cb,maxLen_eq,kL,kA]<;>grind)|grind [EG]
def Zux:=IA.1
def Zsk:=IA.2.1
def ZAh:=IA.2.2.1
def Zf1:=IA.2.2.2.1
def ZBm:=IA.2.2.2.2.1
def ZvD:=IA.2.2.2.2.2.1
def Zyp:=IA.2.2.2.2.2.2.1
def ZzA:=IA.2.2.2.2.2.2.2.1
def ZqO:=IA.2.2.2.2.2.2.2.2.1
def Zdz:=IA.2.2.2.2.2.2.2.2.2.1
def ZyI:=IA.2.2.2.2.2.2.2.2.2.2.1
def Zxp:=IA.2.2.2.2.2.2.2.2.2.2.2.1
def ZrV:=IA.2.2.2.2.2.2.2.2.2.2.2.2.1
def bH:=IA.2.2.2.2.2.2.2.2.2.2.2.2.2.1
def Zfy:=IA.2.2.2.2.2.2.2.2.2.2.2.2.2.2.2.1
def ZAv:=IA.2.2.2.2.2.2.2.2.2.2.2.2.2.2.2.2.1
def Zo8:=IA.2.2.2.2.2.2.2.2.2.2.2.2.2.2.2.2.2.1
def Zrq:=IA.2.2.2.2.2.2.2.2.2.2.2.2.2.2.2.2.2.2.1
def ZwS:=IA.2.2.2.2.2.2.2.2.2.2.2.2.2.2.2.2.2.2.2.1
def Z28:=IA.2.2.2.2.2.2.2.2.2.2.2.2.2.2.2.2.2.2.2.2.1
def ZxB:=IA.2.2.2.2.2.2.2.2.2.2.2.2.2.2.2.2.2.2.2.2.2.1
def Zyx:=IA.2.2.2.2.2.2.2.2.2.2.2.2.2.2.2.2.2.2.2.2.2.2.1
def Z3b:=IA.2.2.2.2.2.2.2.2.2.2.2.2.2.2.2.2.2.2.2.2.2.2.2
theorem He:(∀(q:List Int),q.length<=1000000->∃r,qQ q=some r/\CO r) /\
  (∀(q A:List Int),q.length<=1000000->∃r,fU q A=some r/\(r.q0.length<=q.length/\Cj r.q0/\(q.length<=A.length->r.q0.length=q.length))) /\
  (∀(q:Bq) (A I:Int),FN q->∃r,dX q A I=some r/\CO r) /\
  (∀(q:Int),∃r,eQ q=some r/\r.length=3/\Cj r) /\
  (∀(q A:Int),∃r,sZ q A=some r/\True) /\
  (∀(q:Int),∃r,rG q=some r/\True) /\
  (∀(q:Int),∃r,sU q=some r/\True) /\
  (∀(q:CW) (A:Bool),∃r,Z1F q A=some r/\r.C9=q.C9/\r.EJ=0) /\
  (∀(q:List BO) (A:Int) (I:Bool),q.length<=37->∃r,bV q A I=some r/\r.length<=37) /\
  (∀(q A:Int),∃r,Z2u q A=some r/\True) /\
  (∀(q:Int),∃r,Rh q=some r/\True) /\
  (∀(q A:Int),∃r,vC q A=some r/\R16 r) /\
  (∀(q:AO),∃r,qH q=some r/\r=⟨q.Kind,q.DZ,q.BL,q.Map⟩) /\
  (∀(k:Int) (q:Ad) (A:Int),BV k q->0<=k->k<=1000000->∃r,uP q A=some r/\BV k r.1/\r.2.length<=1) /\
  (∀(q:Int),∃r,Z0z q=some r/\True) /\
  (∀(q:AZ) (A:AO),BF q->Ce A->∃r,Z1G q A=some r/\Ce r) /\
  (∀(q:AZ) (A:Int),BF q->∃r,Z1P q A=some r/\True) /\
  (∀(q:Int),∃r,qK q=some r/\True) /\
  (∀(q:AO),∃r,OG q=some r/\r=[q]) /\
  (∀(q:Bq) (A I:Bool),FN q->∃r,fF q A I=some r/\FN r) /\
  (∀(q:Int),∃r,Rf q=some r/\0<=r/\r<=65536) /\
  (∀(q:List BO) (A:Int),q.length<=37->∃r,iM q A=some r/\True) /\
  (∀(q:List Int),q.length<=65536->Cj q->∃r,qB q=some r/\Be r.1.Aw) /\
  (∀(q A:List Int),q.length<=100000->A.length<=100000->∃r,uB q A=some r/\True):=by
 refine⟨fun q G=>Bd (fun(p:dE)=>match p with | .b0 z=>z.length<=1000000 | .b1 z D C=>-1<=C/\C<(z.length:Int)/\z.length<=1000000/\CO D) (fun(p:dE)=>match p with | .b0 ..=>(1,0,0) | .b1 _ _ C=>(0,(C+1).toNat,0)) ?_ _ ?_,
  fun q A G=>Bd (fun(p:gZ)=>match p with | .b0 z D=>z=q/\D=A | .b1 z D C F=>(z=q/\D=A/\z.length<=1000000/\0<=F/\F<=(z.length:Int)/\(q.length<=A.length\/F<=(D.length:Int))/\(C.length:Int)=F/\Cj C) | .b2 z D C F=>z=q/\D=A/\z.length<=1000000/\0<=F/\F<(z.length:Int)/\F<(D.length:Int)/\(C.length:Int)=F/\Cj C) (fun(p:gZ)=>match p with | .b0 ..=>(1,0,0) | .b1 z _ _ F=>(0,((z.length:Int) - F).toNat,1) | .b2 z _ _ F=>(0,((z.length:Int) - F).toNat,0)) ?_ _ ?_,
  fun q A I G=>Bd (fun(p:dA)=>match p with | .b0 z _ _=>FN z | .b1 _ _ C=>FN C) (fun(p:dA)=>match p with | .b0 ..=>(0,0,1) | .b1 ..=>(0,0,0)) ?_ _ ?_,
  fun q=>CG (True) ?_ fun hp=>?_,
  fun q A=>CG (True) ?_ fun hp=>?_,
  fun q=>CG (True) ?_ fun hp=>?_,
  fun q=>CG (True) ?_ fun hp=>?_,
  fun q A=>CG (True) ?_ fun hp=>?_,
  fun q A I G=>Bd (fun(p:cO)=>match p with | .b0 z _ _=>z.length<=37 | .b1 z _ C=>C.length<=37/\0<=z/\z<(C.length:Int) | .b2 z _ C=>C.length<=37/\0<=z/\z<(C.length:Int) | .b3 z _ C=>C.length<=37/\0<=z/\z<(C.length:Int) | .b4 z D=>D.length<=37/\0<=z/\z<(D.length:Int)) (fun(p:cO)=>match p with | .b0 ..=>(0,0,4) | .b1 ..=>(0,0,3) | .b2 ..=>(0,0,2) | .b3 ..=>(0,0,1) | .b4 ..=>(0,0,0)) ?_ _ ?_,
  fun q A=>Bd (fun(p:fK)=>True) (fun(p:fK)=>match p with | .b0 ..=>(0,0,1) | .b1 ..=>(0,0,0)) ?_ _ ?_,
  fun q=>CG (True) ?_ fun hp=>?_,
  fun q A=>CG (True) ?_ fun hp=>?_,
  fun q=>CG (q=q) ?_ fun hp=>?_,
  fun k q A G J O=>CG (BV k q) ?_ fun hp=>?_,
  fun q=>Bd (fun(p:Yx)=>True) (fun(p:Yx)=>match p with | .b0 ..=>(0,0,4) | .b1 ..=>(0,0,3) | .b2 ..=>(0,0,2) | .b3 ..=>(0,0,1) | .b4 ..=>(0,0,0)) ?_ _ ?_,
  fun q A G J=>Bd (fun(p:bD)=>match p with | .b0 z D=>BF z/\Ce D | .b1 z _=>Ce z) (fun(p:bD)=>match p with | .b0 ..=>(0,0,1) | .b1 ..=>(0,0,0)) ?_ _ ?_,
  fun q A G=>Bd (fun(p:dL)=>match p with | .b0 z _=>BF z | .b1 _ D C=>BF C/\0<=D/\D<=(C.A8.length:Int)) (fun(p:dL)=>match p with | .b0 ..=>(1,0,0) | .b1 _ D C=>(0,((C.A8.length:Int) - D).toNat,0)) ?_ _ ?_,
  fun q=>CG (True) ?_ fun hp=>?_,
  fun q=>CG (q=q) ?_ fun hp=>?_,
  fun q A I G=>CG (FN q) ?_ fun hp=>?_,
  fun q=>CG (True) ?_ fun hp=>?_,
  fun q A G=>Bd (fun(p:iT)=>match p with | .b0 z _=>z.length<=37 | .b1 ..=>True | .b2 z D _=>z.length<=37/\0<=D/\D<(z.length:Int)) (fun(p:iT)=>match p with | .b0 ..=>(0,0,1)|_=>(0,0,0)) ?_ _ ?_,
  fun q G J=>Bd (fun(p:bZ)=>match p with | .b0 z=>z.length<=65536/\Cj z | .b1 ..=>True | .b2 z _ _ _ _=>2<=z.length/\z.length<=65536/\Cj z) (fun(p:bZ)=>match p with | .b0 ..=>(0,0,1)|_=>(0,0,0)) ?_ _ ?_,
  fun q A G J=>CG (q.length<=100000/\A.length<=100000) ?_ fun hp=>?_⟩
 all_goals try (intro p hp;cases p)
 all_goals
  try dsimp only at hp
  try exact False.elim hp
  try have N:=hp
  try dsimp only[BV,Cm,BF,DW,Be,ES,EW,EE,Ba,Ed,Bh]at N
  try (repeat with_reducible (have Q:=And.left hp;replace hp:=And.right hp))
  try simp only[Vx,U3,rQ,Z2J,Z2v,Z2h,Z2B,ZbS,Zc8,ZdY,Zdo,ZfB,ZbM,Zft,Z9t,ZbR,ZcT,ZbL,Zf2,ZeI,Zdh,Zgm,Vs,Z2r]
  try dsimp only
  repeat' first|(refine D9 ?_;dsimp only;try simp(disch:=omega) only[Bv,Bi,List.nil_append,List.drop_zero])|(refine EN (fun h=>?_) (fun h=>?_)<;>(try simp only[Fe,reduceCtorEq]at h;try simp(disch:=omega) only[Bv]at h))|refine Dq ?_ ?_|refine GN ?_|refine Qd ?_ fun v M=>?_|refine Z3U ?_ fun v M=>?_|refine vY ?_ fun v M=>?_|with_reducible apply And.intro|rfl|assumption|exact True.intro|omega|exact decide_eq_true (GG _).1|exact Fz (by assumption) (by omega)|exact Fh (by assumption) (by omega) |  exact GM (by assumption) (by omega)|(refine ET.2 ?_;first|omega|grind)|(apply GX;first|omega|(simp only[Bi];omega))|(simp only[Dp,Bi,Cb,maxLen_eq,kL,kA]<;>omega)|(simp(disch:=omega) only[Bv,decide_eq_true_eq,bne_iff_ne,ne_eq];(repeat' split)<;>omega)|(simp[Di,Eu];done)|grind|(simp only[Dp,Bi,Cb,maxLen_eq,kL,kA]<;>grind)|grind [EG]
def ZvY:=He.1
def ZAT:=He.2.1
def Zwc:=He.2.2.1
def ZxS:=He.2.2.2.1
def ZA9:=He.2.2.2.2.1
def Zx2:=He.2.2.2.2.2.1
def ZA1:=He.2.2.2.2.2.2.1
def Zud:=He.2.2.2.2.2.2.2.1
def ZbB:=He.2.2.2.2.2.2.2.2.1
def ZyH:=He.2.2.2.2.2.2.2.2.2.1
def Zdi:=He.2.2.2.2.2.2.2.2.2.2.1
def ZAI:=He.2.2.2.2.2.2.2.2.2.2.2.1
def Zum:=He.2.2.2.2.2.2.2.2.2.2.2.2.1
def ZfR:=He.2.2.2.2.2.2.2.2.2.2.2.2.2.1
def ZpA:=He.2.2.2.2.2.2.2.2.2.2.2.2.2.2.1
def ZuA:=He.2.2.2.2.2.2.2.2.2.2.2.2.2.2.2.1
def Zv4:=He.2.2.2.2.2.2.2.2.2.2.2.2.2.2.2.2.1
def Zu0:=He.2.2.2.2.2.2.2.2.2.2.2.2.2.2.2.2.2.1
def Zf7:=He.2.2.2.2.2.2.2.2.2.2.2.2.2.2.2.2.2.2.1
def ZeM:=He.2.2.2.2.2.2.2.2.2.2.2.2.2.2.2.2.2.2.2.1
def Zcx:=He.2.2.2.2.2.2.2.2.2.2.2.2.2.2.2.2.2.2.2.2.1
def ZCN:=He.2.2.2.2.2.2.2.2.2.2.2.2.2.2.2.2.2.2.2.2.2.1
def ZbT:=He.2.2.2.2.2.2.2.2.2.2.2.2.2.2.2.2.2.2.2.2.2.2.1
def ZyS:=He.2.2.2.2.2.2.2.2.2.2.2.2.2.2.2.2.2.2.2.2.2.2.2
theorem jG:(∀(q:Int),∃r,rU q=some r/\True) /\
  (∀(q:Bq) (A G:Bool),FN q->∃r,tH q A G=some r/\FN r) /\
  (∀(q:List Int) (A G:Int),0<=A->0<=G->G<=8->A+G<=(q.length:Int)->q.length<=1000000->∃r,Gh q A G=some r/\CO r) /\
  (∀(q:List Au) (A:Int),q.length<=1->∃r,rJ q A=some r/\r.length<=1) /\
  (∀(q A:Int),∃r,MZ q A=some r/\r.length=1):=by
 refine⟨fun q=>CG (True) ?_ fun hp=>?_,
  fun q A G I=>Bd (fun(p:fJ)=>match p with | .b0 z _ _=>FN z | .b1 _ D _=>FN D | .b2 _ D _=>FN D | .b3 z _=>FN z) (fun(p:fJ)=>match p with | .b0 ..=>(0,0,3) | .b1 ..=>(0,0,2) | .b2 ..=>(0,0,1) | .b3 ..=>(0,0,0)) ?_ _ ?_,
  fun q A G I N O Q S=>Bd (fun(p:gQ)=>match p with | .b0 z D F=>0<=D/\0<=F/\F<=8/\D+F<=(z.length:Int)/\z.length<=1000000 | .b1 z D F C=>0<=D /\ -1<=C/\C<=7/\D+C<(z.length:Int)/\z.length<=1000000/\CO F) (fun(p:gQ)=>match p with | .b0 ..=>(1,0,0) | .b1 _ _ _ C=>(0,(C+1).toNat,0)) ?_ _ ?_,
  fun q A I=>Bd (fun(p:dY)=>match p with | .b0 z _=>z.length<=1 | .b1 z _ F C=>z.length<=1/\F.length<=1/\0<=C/\C<=(z.length:Int)/\(F.length:Int)=C) (fun(p:dY)=>match p with | .b0 ..=>(1,0,0) | .b1 z _ _ C=>(0,((z.length:Int) - C).toNat,0)) ?_ _ ?_,
  fun q A=>CG (True) ?_ fun hp=>?_⟩
 all_goals try (intro p hp;cases p)
 all_goals
  try dsimp only at hp
  try exact False.elim hp
  try have M:=hp
  try dsimp only[BV,Cm,BF,DW,Be,ES,EW,EE,Ba,Ed,Bh]at M
  try (repeat with_reducible (have Y:=And.left hp;replace hp:=And.right hp))
  try simp only[Z2l,Zed,Wq,Zcv,Zex]
  try dsimp only
  repeat' first|(refine D9 ?_;dsimp only;try simp(disch:=omega) only[Bv,Bi,List.nil_append,List.drop_zero])|(refine EN (fun h=>?_) (fun h=>?_)<;>(try simp only[Fe,reduceCtorEq]at h;try simp(disch:=omega) only[Bv]at h))|refine Dq ?_ ?_|refine GN ?_|refine Qd ?_ fun v J=>?_|refine Z3I ?_ fun v J=>?_|with_reducible apply And.intro|rfl|assumption|exact True.intro|omega|exact decide_eq_true (GG _).1|exact Fz (by assumption) (by omega)|exact Fh (by assumption) (by omega) |  exact GM (by assumption) (by omega)|(refine ET.2 ?_;first|omega|grind)|(apply GX;first|omega|(simp only[Bi];omega))|(simp only[Dp,Bi,Cb,maxLen_eq,kL,kA]<;>omega)|(simp(disch:=omega) only[Bv,decide_eq_true_eq,bne_iff_ne,ne_eq];(repeat' split)<;>omega)|(simp[Di,Eu];done)|grind|(simp only[Dp,Bi,Cb,maxLen_eq,kL,kA]<;>grind)|grind [EG]
def Zvr:=jG.1
def ZdM:=jG.2.1
def Z3q:=jG.2.2.1
def Zdp:=jG.2.2.2.1
def ZxJ:=jG.2.2.2.2
theorem Z2c:∀(A:Int),0<=A->A<=63->∃r,UX A=some r/\0<r:=by
 refine fun A Q F=>Bd (fun(p:dG)=>match p with | .b0 q=>0<=q/\q<=63 | .b1 q I z=>0<=z/\q<=63/\z<=q/\I=2 ^ z.toNat) (fun(p:dG)=>match p with | .b0 ..=>(1,0,0) | .b1 q _ z=>(0,(q - z).toNat,0)) ?_ _ ?_
 all_goals try (intro p hp;cases p)
 case' b1=>
  dsimp only at hp;have D:=hp
  try dsimp only[BV,Cm,BF,DW,Be,ES,EW,EE,Ba,Ed,Bh]at D
  simp only[WA];obtain⟨F,O,S,G⟩:=hp;refine EN (fun h=>?_) (fun h=>?_)
  ·simp only[decide_eq_true_eq]at h;refine D9 ?_;dsimp only;obtain⟨n,rfl⟩:=Int.eq_ofNat_of_zero_le F;rw[Bv (by omega) (by omega)];refine⟨⟨by omega,O,by omega,?_⟩,?_⟩
   ·subst G;have Y:n<63:=by omega
    have J:((n:Int)+1).toNat=n+1:=by omega
    have M:((n:Int)).toNat=n:=by omega
    have C:(2:Int) ^ n*2<18446744073709551616:=by
     have:2 ^ (n+1)<2 ^ 64:=Nat.pow_lt_pow_right (by decide) (by omega);have N : ((2 ^ (n+1):Nat):Int)<((2 ^ 64:Nat):Int):=by exact_mod_cast this
     simpa[Int.pow_succ]using N
    rw[J,M,IntKind.wrap_u64,Int.emod_eq_of_lt (Int.mul_nonneg (Int.pow_nonneg (by decide)) (by decide)) C,Int.pow_succ]
   ·refine ET.2 ?_;omega
  ·refine D9 ?_;dsimp only;subst G;exact Int.pow_pos (by decide)
 all_goals
  try dsimp only at hp
  try exact False.elim hp
  try have D:=hp
  try dsimp only[BV,Cm,BF,DW,Be,ES,EW,EE,Ba,Ed,Bh]at D
  try (repeat with_reducible (have hq:=And.left hp;replace hp:=And.right hp))
  try simp only[WA]
  try dsimp only
  repeat' first|(refine D9 ?_;dsimp only;try simp(disch:=omega) only[Bv,Bi,List.nil_append,List.drop_zero])|(refine EN (fun h=>?_) (fun h=>?_)<;>(try simp only[Fe,reduceCtorEq]at h;try simp(disch:=omega) only[Bv]at h))|refine Dq ?_ ?_|refine GN ?_|with_reducible apply And.intro|rfl|assumption|exact True.intro|omega|exact decide_eq_true (GG _).1|exact Fz (by assumption) (by omega)|exact Fh (by assumption) (by omega) |  exact GM (by assumption) (by omega)|(refine ET.2 ?_;first|omega|grind)|(apply GX;first|omega|(simp only[Bi];omega))|(simp only[Dp,Bi,Cb,maxLen_eq,kL,kA]<;>omega)|(simp(disch:=omega) only[Bv,decide_eq_true_eq,bne_iff_ne,ne_eq];(repeat' split)<;>omega)|(simp[Di,Eu];done)|grind|(simp only[Dp,Bi,Cb,maxLen_eq,kL,kA]<;>grind)|grind [EG]
theorem ZBq:∀(q z:Int),∃r,Wj q z=some r/\True:=by
 refine fun q z=>Bd (fun(p:iE)=>True) (fun(p:iE)=>match p with | .b0 ..=>(0,0,1) | .b1 ..=>(0,0,0)) ?_ _ ?_
 all_goals try (intro p hp;cases p)
 case' b0 a0 a1=>
  have hb : -64<Int.tmod (AQ (AQ (a1.tmod 64+64)*11)) 64/\Int.tmod (AQ (AQ (a1.tmod 64+64)*11)) 64<64:=tm_bd _ 64 (by omega)
 all_goals
  try dsimp only at hp
  try exact False.elim hp
  try have A:=hp
  try dsimp only[BV,Cm,BF,DW,Be,ES,EW,EE,Ba,Ed,Bh]at A
  try (repeat with_reducible (have C:=And.left hp;replace hp:=And.right hp))
  try simp only[iH]
  try dsimp only
  repeat' first|(refine D9 ?_;dsimp only;try simp(disch:=omega) only[Bv,Bi,List.nil_append,List.drop_zero])|(refine EN (fun h=>?_) (fun h=>?_)<;>(try simp only[Fe,reduceCtorEq]at h;try simp(disch:=omega) only[Bv]at h))|refine Dq ?_ ?_|refine GN ?_|with_reducible apply And.intro|rfl|assumption|exact True.intro|omega|exact decide_eq_true (GG _).1|exact Fz (by assumption) (by omega)|exact Fh (by assumption) (by omega) |  exact GM (by assumption) (by omega)|(refine ET.2 ?_;first|omega|grind)|(apply GX;first|omega|(simp only[Bi];omega))|(simp only[Dp,Bi,Cb,maxLen_eq,kL,kA]<;>omega)|(simp(disch:=omega) only[Bv,decide_eq_true_eq,bne_iff_ne,ne_eq];(repeat' split)<;>omega)|(simp[Di,Eu];done)|grind|(simp only[Dp,Bi,Cb,maxLen_eq,kL,kA]<;>grind)|grind [EG]
end Go.Proofs.YtjodhcdmhobmoaaGreatDoor
