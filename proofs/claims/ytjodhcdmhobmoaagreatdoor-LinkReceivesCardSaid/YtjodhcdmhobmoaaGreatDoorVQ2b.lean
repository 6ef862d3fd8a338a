/- . -/
import Derived.Test.YtjodhcdmhobmoaaGreatDoorVQ2a
set_option linter.unusedVariables false
set_option linter.unusedSimpArgs false
namespace Go.Proofs.YtjodhcdmhobmoaaGreatDoor
open Go Go.Proofs.YtjodhcdmhobmoaaGreatDoor.Le
set_option maxRecDepth 100000
set_option linter.defProp false
set_option maxHeartbeats 40000000
open Go Go.Proofs.YtjodhcdmhobmoaaGreatDoor.Le Go.Proofs.YtjodhcdmhobmoaaGreatDoor.Na
theorem Gw:(∀(q:List Int),q.length<=1000000->∃r,uG q=some r/\CU r) /\
  (∀(q A:List Int),q.length<=1000000->∃r,iM q A=some r/\(r.q0.length<=q.length/\DZ r.q0/\(q.length<=A.length->r.q0.length=q.length))) /\
  (∀(q:Bc) (A I:Int),Hr q->∃r,eG q A I=some r/\CU r) /\
  (∀(q:Int),∃r,gV q=some r/\r.length=3/\DZ r) /\
  (∀(q A:Int),∃r,uU q A=some r/\True) /\
  (∀(q:Int),∃r,tK q=some r/\True) /\
  (∀(q:Int),∃r,uY q=some r/\True) /\
  (∀(q:ET) (A:Bool),∃r,Z26 q A=some r/\True) /\
  (∀(q:List BJ) (A:Int) (I:Bool),q.length<=37->∃r,XM q A I=some r/\r.length<=37) /\
  (∀(q A:Int),∃r,vJ q A=some r/\True) /\
  (∀(q:Int),∃r,QX q=some r/\True) /\
  (∀(q A:Int),∃r,vY q A=some r/\R16 r) /\
  (∀(q:AO),∃r,dA q=some r/\r.Map=q.Map/\r.Ci=q.Ci) /\
  (∀(k:Int) (q:Ac) (A:Int),BR k q->0<=k->k<=1000000->∃r,iI q A=some r/\BR k r.1/\r.2.length<=1) /\
  (∀(q:Int),∃r,Z1h q=some r/\True) /\
  (∀(q:A7) (A:AO),BM q->CY A->∃r,Z28 q A=some r/\CY r) /\
  (∀(q:A7) (A:Int),BM q->∃r,Z2Y q A=some r/\True) /\
  (∀(q:Int),∃r,sH q=some r/\True) /\
  (∀(q:AO),∃r,N8 q=some r/\r=[q]) /\
  (∀(q:Bc) (A I:Bool),Hr q->∃r,X3 q A I=some r/\Hr r) /\
  (∀(q:Int),∃r,SI q=some r/\0<=r/\r<=65536) /\
  (∀(q:List BJ) (A:Int),q.length<=37->∃r,jW q A=some r/\True) /\
  (∀(q:List Int),q.length<=65536->DZ q->∃r,rY q=some r/\Cb r.1.Ap) /\
  (∀(q A:List Int),q.length<=100000->A.length<=100000->∃r,vM q A=some r/\True):=by
 refine⟨fun q G=>CW (fun(p:eX)=>match p with | .b0 z=>z.length<=1000000 | .b1 z D C=>-1<=C/\C<(z.length:Int)/\z.length<=1000000/\CU D) (fun(p:eX)=>match p with | .b0 ..=>(1,0,0) | .b1 _ _ C=>(0,(C+1).toNat,0)) ?_ _ ?_,
  fun q A G=>CW (fun(p:iT)=>match p with | .b0 z D=>z=q/\D=A | .b1 z D C F=>(z=q/\D=A/\z.length<=1000000/\0<=F/\F<=(z.length:Int)/\(q.length<=A.length\/F<=(D.length:Int))/\(C.length:Int)=F/\DZ C) | .b2 z D C F=>z=q/\D=A/\z.length<=1000000/\0<=F/\F<(z.length:Int)/\F<(D.length:Int)/\(C.length:Int)=F/\DZ C) (fun(p:iT)=>match p with | .b0 ..=>(1,0,0) | .b1 z _ _ F=>(0,((z.length:Int) - F).toNat,1) | .b2 z _ _ F=>(0,((z.length:Int) - F).toNat,0)) ?_ _ ?_,
  fun q A I G=>CW (fun(p:fP)=>match p with | .b0 z _ _=>Hr z | .b1 _ _ C=>Hr C) (fun(p:fP)=>match p with | .b0 ..=>(0,0,1) | .b1 ..=>(0,0,0)) ?_ _ ?_,
  fun q=>Cc (True) ?_ fun hp=>?_,
  fun q A=>Cc (True) ?_ fun hp=>?_,
  fun q=>Cc (True) ?_ fun hp=>?_,
  fun q=>Cc (True) ?_ fun hp=>?_,
  fun q A=>Cc (True) ?_ fun hp=>?_,
  fun q A I G=>CW (fun(p:dK)=>match p with | .b0 z _ _=>z.length<=37 | .b1 z _ C=>C.length<=37/\0<=z/\z<(C.length:Int) | .b2 z _ C=>C.length<=37/\0<=z/\z<(C.length:Int) | .b3 z _ C=>C.length<=37/\0<=z/\z<(C.length:Int) | .b4 z D=>D.length<=37/\0<=z/\z<(D.length:Int)) (fun(p:dK)=>match p with | .b0 ..=>(0,0,4) | .b1 ..=>(0,0,3) | .b2 ..=>(0,0,2) | .b3 ..=>(0,0,1) | .b4 ..=>(0,0,0)) ?_ _ ?_,
  fun q A=>CW (fun(p:gZ)=>True) (fun(p:gZ)=>match p with | .b0 ..=>(0,0,1) | .b1 ..=>(0,0,0)) ?_ _ ?_,
  fun q=>Cc (True) ?_ fun hp=>?_,
  fun q A=>Cc (True) ?_ fun hp=>?_,
  fun q=>Cc (q=q) ?_ fun hp=>?_,
  fun k q A G J M=>Cc (BR k q) ?_ fun hp=>?_,
  fun q=>CW (fun(p:aV)=>True) (fun(p:aV)=>match p with | .b0 ..=>(0,0,4) | .b1 ..=>(0,0,3) | .b2 ..=>(0,0,2) | .b3 ..=>(0,0,1) | .b4 ..=>(0,0,0)) ?_ _ ?_,
  fun q A G J=>CW (fun(p:dM)=>match p with | .b0 z D=>BM z/\CY D | .b1 z _=>CY z) (fun(p:dM)=>match p with | .b0 ..=>(0,0,1) | .b1 ..=>(0,0,0)) ?_ _ ?_,
  fun q A G=>CW (fun(p:fO)=>match p with | .b0 z _=>BM z | .b1 _ D C=>BM C/\0<=D/\D<=(C.Ah.length:Int)) (fun(p:fO)=>match p with | .b0 ..=>(1,0,0) | .b1 _ D C=>(0,((C.Ah.length:Int) - D).toNat,0)) ?_ _ ?_,
  fun q=>Cc (True) ?_ fun hp=>?_,
  fun q=>Cc (q=q) ?_ fun hp=>?_,
  fun q A I G=>Cc (Hr q) ?_ fun hp=>?_,
  fun q=>Cc (True) ?_ fun hp=>?_,
  fun q A G=>CW (fun(p:jO)=>match p with | .b0 z _=>z.length<=37 | .b1 ..=>True | .b2 z D _=>z.length<=37/\0<=D/\D<(z.length:Int)) (fun(p:jO)=>match p with | .b0 ..=>(0,0,1)|_=>(0,0,0)) ?_ _ ?_,
  fun q G J=>CW (fun(p:bZ)=>match p with | .b0 z=>z.length<=65536/\DZ z | .b1 ..=>True | .b2 z _ _ _ _=>2<=z.length/\z.length<=65536/\DZ z) (fun(p:bZ)=>match p with | .b0 ..=>(0,0,1)|_=>(0,0,0)) ?_ _ ?_,
  fun q A G J=>Cc (q.length<=100000/\A.length<=100000) ?_ fun hp=>?_⟩
 all_goals try (intro p hp;cases p)
 all_goals
  try dsimp only at hp
  try exact False.elim hp
  try have hx:=hp
  try dsimp only[BR,Dl,BM,EE,Cb,F6,Fj,FB]at hx
  try (repeat with_reducible (have N:=And.left hp;replace hp:=And.right hp))
  try simp only[XX,VB,tX,Z3f,Z3m,Z2p,Z3w,ZbU,PE,gJ,Z2O,Zf9,Zbw,ZeW,Z9t,ZbJ,ZcW,Zbe,Zfd,Zec,ZcE,ZfS,XN,Z3h]
  try dsimp only
  repeat' first|(refine FP ?_;dsimp only;try simp(disch:=omega) only[Ce,CZ,List.nil_append,List.drop_zero])|(refine GH (fun h=>?_) (fun h=>?_)<;>(try simp only[Ht,reduceCtorEq]at h;try simp(disch:=omega) only[Ce]at h))|refine EU ?_ ?_|refine Ii ?_|refine TK ?_ fun v hv=>?_|refine ZgV ?_ fun v hv=>?_|refine Z4j ?_ fun v hv=>?_|with_reducible apply And.intro|rfl|assumption|exact True.intro|omega|exact decide_eq_true (IP _).1|exact IM (by assumption) (by omega)|exact Ih (by assumption) (by omega)|(refine Gu.2 ?_;first|omega|grind)|(apply IX;first|omega|(simp only[CZ];omega))|(simp only[Ei,CZ,D6,maxLen_eq,kL,kA]<;>omega)|(simp(disch:=omega) only[Ce,decide_eq_true_eq,bne_iff_ne,ne_eq];(repeat' split)<;>omega)|(simp[EJ,Fq];done)|grind|(simp only[Ei,CZ,D6,maxLen_eq,kL,kA]<;>grind)|grind [Ee]
def ZtQ:=Gw.1
def ZzM:=Gw.2.1
def ZtJ:=Gw.2.2.1
def Zx1:=Gw.2.2.2.1
def Zwb:=Gw.2.2.2.2.1
def Zug:=Gw.2.2.2.2.2.1
def Zwx:=Gw.2.2.2.2.2.2.1
def Zrw:=Gw.2.2.2.2.2.2.2.1
def Zbz:=Gw.2.2.2.2.2.2.2.2.1
def Zwf:=Gw.2.2.2.2.2.2.2.2.2.1
def Zd8:=Gw.2.2.2.2.2.2.2.2.2.2.1
def Zzp:=Gw.2.2.2.2.2.2.2.2.2.2.2.1
def Zr8:=Gw.2.2.2.2.2.2.2.2.2.2.2.2.1
def Zeu:=Gw.2.2.2.2.2.2.2.2.2.2.2.2.2.1
def Zoi:=Gw.2.2.2.2.2.2.2.2.2.2.2.2.2.2.1
def ZrG:=Gw.2.2.2.2.2.2.2.2.2.2.2.2.2.2.2.1
def Zud:=Gw.2.2.2.2.2.2.2.2.2.2.2.2.2.2.2.2.1
def ZsQ:=Gw.2.2.2.2.2.2.2.2.2.2.2.2.2.2.2.2.2.1
def Zf4:=Gw.2.2.2.2.2.2.2.2.2.2.2.2.2.2.2.2.2.2.1
def Zde:=Gw.2.2.2.2.2.2.2.2.2.2.2.2.2.2.2.2.2.2.2.1
def ZcZ:=Gw.2.2.2.2.2.2.2.2.2.2.2.2.2.2.2.2.2.2.2.2.1
def ZCe:=Gw.2.2.2.2.2.2.2.2.2.2.2.2.2.2.2.2.2.2.2.2.2.1
def ZbT:=Gw.2.2.2.2.2.2.2.2.2.2.2.2.2.2.2.2.2.2.2.2.2.2.1
def Zwv:=Gw.2.2.2.2.2.2.2.2.2.2.2.2.2.2.2.2.2.2.2.2.2.2.2
theorem kH:(∀(q:Int),∃r,tZ q=some r/\True) /\
  (∀(q:Bc) (A G:Bool),Hr q->∃r,gG q A G=some r/\Hr r) /\
  (∀(q:List Int) (A G:Int),0<=A->0<=G->G<=8->A+G<=(q.length:Int)->q.length<=1000000->∃r,GX q A G=some r/\CU r) /\
  (∀(q:List Am) (A:Int),q.length<=1->∃r,eY q A=some r/\r.length<=1) /\
  (∀(q A:Int),∃r,Lr q A=some r/\r.length=1):=by
 refine⟨fun q=>Cc (True) ?_ fun hp=>?_,
  fun q A G I=>CW (fun(p:fZ)=>match p with | .b0 z _ _=>Hr z | .b1 _ D _=>Hr D | .b2 _ D _=>Hr D | .b3 z _=>Hr z) (fun(p:fZ)=>match p with | .b0 ..=>(0,0,3) | .b1 ..=>(0,0,2) | .b2 ..=>(0,0,1) | .b3 ..=>(0,0,0)) ?_ _ ?_,
  fun q A G I J M N O=>CW (fun(p:jJ)=>match p with | .b0 z D F=>0<=D/\0<=F/\F<=8/\D+F<=(z.length:Int)/\z.length<=1000000 | .b1 z D F C=>0<=D /\ -1<=C/\C<=7/\D+C<(z.length:Int)/\z.length<=1000000/\CU F) (fun(p:jJ)=>match p with | .b0 ..=>(1,0,0) | .b1 _ _ _ C=>(0,(C+1).toNat,0)) ?_ _ ?_,
  fun q A I=>CW (fun(p:fF)=>match p with | .b0 z _=>z.length<=1 | .b1 z _ F C=>z.length<=1/\F.length<=1/\0<=C/\C<=(z.length:Int)/\(F.length:Int)=C) (fun(p:fF)=>match p with | .b0 ..=>(1,0,0) | .b1 z _ _ C=>(0,((z.length:Int) - C).toNat,0)) ?_ _ ?_,
  fun q A=>Cc (True) ?_ fun hp=>?_⟩
 all_goals try (intro p hp;cases p)
 all_goals
  try dsimp only at hp
  try exact False.elim hp
  try have hx:=hp
  try dsimp only[BR,Dl,BM,EE,Cb,F6,Fj,FB]at hx
  try (repeat with_reducible (have Q:=And.left hp;replace hp:=And.right hp))
  try simp only[Z2o,Uo,X8,Uj,Zdw]
  try dsimp only
  repeat' first|(refine FP ?_;dsimp only;try simp(disch:=omega) only[Ce,CZ,List.nil_append,List.drop_zero])|(refine GH (fun h=>?_) (fun h=>?_)<;>(try simp only[Ht,reduceCtorEq]at h;try simp(disch:=omega) only[Ce]at h))|refine EU ?_ ?_|refine Ii ?_|refine TK ?_ fun v hv=>?_|refine ZfN ?_ fun v hv=>?_|with_reducible apply And.intro|rfl|assumption|exact True.intro|omega|exact decide_eq_true (IP _).1|exact IM (by assumption) (by omega)|exact Ih (by assumption) (by omega)|(refine Gu.2 ?_;first|omega|grind)|(apply IX;first|omega|(simp only[CZ];omega))|(simp only[Ei,CZ,D6,maxLen_eq,kL,kA]<;>omega)|(simp(disch:=omega) only[Ce,decide_eq_true_eq,bne_iff_ne,ne_eq];(repeat' split)<;>omega)|(simp[EJ,Fq];done)|grind|(simp only[Ei,CZ,D6,maxLen_eq,kL,kA]<;>grind)|grind [Ee]
def ZtT:=kH.1
def ZdA:=kH.2.1
def Z3K:=kH.2.2.1
def ZcU:=kH.2.2.2.1
def ZvS:=kH.2.2.2.2
theorem Z2Q:∀(A:Int),0<=A->A<=63->∃r,Uk A=some r/\0<r:=by
 refine fun A O D=>CW (fun(p:eU)=>match p with | .b0 q=>0<=q/\q<=63 | .b1 q G z=>0<=z/\q<=63/\z<=q/\G=2 ^ z.toNat) (fun(p:eU)=>match p with | .b0 ..=>(1,0,0) | .b1 q _ z=>(0,(q - z).toNat,0)) ?_ _ ?_
 all_goals try (intro p hp;cases p)
 case' b1=>
  dsimp only at hp;have hx:=hp
  try dsimp only[BR,Dl,BM,EE,Cb,F6,Fj,FB]at hx
  simp only[XO];obtain⟨D,N,Q,F⟩:=hp;refine GH (fun h=>?_) (fun h=>?_)
  ·simp only[decide_eq_true_eq]at h;refine FP ?_;dsimp only;obtain⟨n,rfl⟩:=Int.eq_ofNat_of_zero_le D;rw[Ce (by omega) (by omega)];refine⟨⟨by omega,N,by omega,?_⟩,?_⟩
   ·subst F;have S:n<63:=by omega
    have I:((n:Int)+1).toNat=n+1:=by omega
    have J:((n:Int)).toNat=n:=by omega
    have C:(2:Int) ^ n*2<18446744073709551616:=by
     have:2 ^ (n+1)<2 ^ 64:=Nat.pow_lt_pow_right (by decide) (by omega);have M : ((2 ^ (n+1):Nat):Int)<((2 ^ 64:Nat):Int):=by exact_mod_cast this
     simpa[Int.pow_succ]using M
    rw[I,J,IntKind.wrap_u64,Int.emod_eq_of_lt (Int.mul_nonneg (Int.pow_nonneg (by decide)) (by decide)) C,Int.pow_succ]
   ·refine Gu.2 ?_;omega
  ·refine FP ?_;dsimp only;subst F;exact Int.pow_pos (by decide)
 all_goals
  try dsimp only at hp
  try exact False.elim hp
  try have hx:=hp
  try dsimp only[BR,Dl,BM,EE,Cb,F6,Fj,FB]at hx
  try (repeat with_reducible (have Y:=And.left hp;replace hp:=And.right hp))
  try simp only[XO]
  try dsimp only
  repeat' first|(refine FP ?_;dsimp only;try simp(disch:=omega) only[Ce,CZ,List.nil_append,List.drop_zero])|(refine GH (fun h=>?_) (fun h=>?_)<;>(try simp only[Ht,reduceCtorEq]at h;try simp(disch:=omega) only[Ce]at h))|refine EU ?_ ?_|refine Ii ?_|with_reducible apply And.intro|rfl|assumption|exact True.intro|omega|exact decide_eq_true (IP _).1|exact IM (by assumption) (by omega)|exact Ih (by assumption) (by omega)|(refine Gu.2 ?_;first|omega|grind)|(apply IX;first|omega|(simp only[CZ];omega))|(simp only[Ei,CZ,D6,maxLen_eq,kL,kA]<;>omega)|(simp(disch:=omega) only[Ce,decide_eq_true_eq,bne_iff_ne,ne_eq];(repeat' split)<;>omega)|(simp[EJ,Fq];done)|grind|(simp only[Ei,CZ,D6,maxLen_eq,kL,kA]<;>grind)|grind [Ee]
theorem Zzf:∀(q z:Int),∃r,Xb q z=some r/\True:=by
 refine fun q z=>CW (fun(p:iU)=>True) (fun(p:iU)=>match p with | .b0 ..=>(0,0,1) | .b1 ..=>(0,0,0)) ?_ _ ?_
 all_goals try (intro p hp;cases p)
 case' b0 a0 a1=>
  have hb : -64<Int.tmod (AQ (AQ (a1.tmod 64+64)*11)) 64/\Int.tmod (AQ (AQ (a1.tmod 64+64)*11)) 64<64:=tm_bd _ 64 (by omega)
 all_goals
  try dsimp only at hp
  try exact False.elim hp
  try have hx:=hp
  try dsimp only[BR,Dl,BM,EE,Cb,F6,Fj,FB]at hx
  try (repeat with_reducible (have A:=And.left hp;replace hp:=And.right hp))
  try simp only[iW]
  try dsimp only
  repeat' first|(refine FP ?_;dsimp only;try simp(disch:=omega) only[Ce,CZ,List.nil_append,List.drop_zero])|(refine GH (fun h=>?_) (fun h=>?_)<;>(try simp only[Ht,reduceCtorEq]at h;try simp(disch:=omega) only[Ce]at h))|refine EU ?_ ?_|refine Ii ?_|with_reducible apply And.intro|rfl|assumption|exact True.intro|omega|exact decide_eq_true (IP _).1|exact IM (by assumption) (by omega)|exact Ih (by assumption) (by omega)|(refine Gu.2 ?_;first|omega|grind)|(apply IX;first|omega|(simp only[CZ];omega))|(simp only[Ei,CZ,D6,maxLen_eq,kL,kA]<;>omega)|(simp(disch:=omega) only[Ce,decide_eq_true_eq,bne_iff_ne,ne_eq];(repeat' split)<;>omega)|(simp[EJ,Fq];done)|grind|(simp only[Ei,CZ,D6,maxLen_eq,kL,kA]<;>grind)|grind [Ee]
theorem Hu:(∀(q:D5),∃r,aJ q=some r/\True) /\
  (∀(q A:Int),∃r,X9 q A=some r/\True) /\
  (∀(q:Int),∃r,Z2R q=some r/\True) /\
  (∀(q:D5),∃r,Z29 q=some r/\True) /\
  (∀(q:D5),∃r,Z39 q=some r/\True) /\
  (∀(k:Int) (q:Ac),BR k q->0<=k->k<=1000000->∃r,uI q=some r/\True) /\
  (∀(q A:Int),∃r,dL q A=some r/\True) /\
  (∀(q:AO),CY q->∃r,uM q=some r/\CY r) /\
  (∀(q:D5),∃r,qA q=some r/\r.length=9/\DZ r) /\
  (∀(q:BI),∃r,QV q=some r/\((r=0->Ee q.SN/\Ee q.DX/\Ee q.MD/\1<=q.Ap.BP/\q.Ap.BP<=3/\(1<=q.Ap.Payload.length\/q.Ap.BP=1)/\q.Ap.Payload.length<=255))) /\
  (∀(q:BQ),Dl q->∃r,Z3g q=some r/\Dl r.1/\r.1.Open=true/\Cb r.2.Ap) /\
  (∀(q A G:Int),∃r,sW q A G=some r/\True) /\
  (∀(q:Int) (A G:List Int),A.length<=200000->G.length<=200000->∃r,tV q A G=some r/\r.q0.length<=400100) /\
  (∀(q:Int) (A:List Int),A.length<=1000000->∃r,iQ q A=some r/\True) /\
  (∀(q A:Int),0<=A->A<=1000000->∃r,qO q A=some r/\(r.length:Int)=A/\DZ r) /\
  (∀(q:ET),∃r,Z3t q=some r/\True) /\
  (∀(q A:Int),∃r,dP q A=some r/\True) /\
  (∀(q:ET) (A:Int),∃r,Z41 q A=some r/\True) /\
  (∀(q:A7) (A:AO),BM q->CY A->∃r,vX q A=some r/\True) /\
  (∀(q A:Int),∃r,Z3n q A=some r/\R16 r) /\
  (∀(k:Int) (q:Ac),BR k q->0<=k->k<=1000000->∃r,sN q=some r/\R16 r) /\
  (∀(q A G:Int),∃r,uQ q A G=some r/\True) /\
  (∀(q:D5),∃r,Z1F q=some r/\True) /\
  (∀(q:Int),∃r,Z19 q=some r/\True):=by
 refine⟨fun q=>CW (fun(p:aI)=>True) (fun(p:aI)=>match p with | .b0 ..=>(0,0,1) | .b1 ..=>(0,0,0)) ?_ _ ?_,
  fun q A=>Cc (True) ?_ fun hp=>?_,
  fun q=>Cc (True) ?_ fun hp=>?_,
  fun q=>Cc (True) ?_ fun hp=>?_,
  fun q=>Cc (True) ?_ fun hp=>?_,
  fun k q J N O=>Cc (BR k q) ?_ fun hp=>?_,
  fun q A=>CW (fun(p:dN)=>match p with | .b0 ..=>True | .b1 _ _ D=>0<=D/\D<=3) (fun(p:dN)=>match p with | .b0 ..=>(1,0,0) | .b1 _ _ D=>(0,(3 - D).toNat,0)) ?_ _ ?_,
  fun q J=>CW (fun(p:iH)=>match p with | .b0 z=>CY z | .b1 z _ _=>CY z | .b2 z _ _=>CY z | .b3 z _ _=>CY z | .b4 z _ _=>CY z | .b5 z _ _=>CY z | .b6 z _ _=>CY z | .b7 z _ _=>CY z | .b8 z _ _=>CY z | .b9 z _ _=>CY z) (fun(p:iH)=>match p with | .b0 ..=>(0,0,9) | .b1 ..=>(0,0,8) | .b2 ..=>(0,0,7) | .b3 ..=>(0,0,6) | .b4 ..=>(0,0,5) | .b5 ..=>(0,0,4) | .b6 ..=>(0,0,3) | .b7 ..=>(0,0,2) | .b8 ..=>(0,0,1) | .b9 ..=>(0,0,0)) ?_ _ ?_,
  fun q=>Cc (True) ?_ fun hp=>?_,
  fun q=>CW (fun(p:eP)=>match p with | .b0 z=>z=q | .b1 z=>z=q/\Ee z.SN/\Ee z.DX/\Ee z.MD) (fun(p:eP)=>match p with | .b0 ..=>(0,0,1) | .b1 ..=>(0,0,0)) ?_ _ ?_,
  fun q J=>CW (fun(p:gX)=>match p with | .b0 z=>Dl z | .b1 z _ _=>Dl z/\z.Open=true | .b2 _ C _ _ I=>Dl C/\Cb I.Ap/\C.Open=true/\C.Empty=false | .b3 _ C _ _ I=>Dl C/\Cb I.Ap/\C.Open=true | .b4 z _ _ F=>Dl z/\Cb F.Ap/\z.Open=true) (fun(p:gX)=>match p with | .b0 ..=>(0,0,4) | .b1 ..=>(0,0,3) | .b2 ..=>(0,0,2) | .b3 ..=>(0,0,1) | .b4 ..=>(0,0,0)) ?_ _ ?_,
  fun q A G=>Cc (True) ?_ fun hp=>?_,
  fun q A G J N=>CW (fun(p:eF)=>match p with | .b0 _ C D=>C.length<=200000/\D.length<=200000) (fun(p:eF)=>(0,0,0)) ?_ _ ?_,
  fun q A J=>CW (fun(p:iK)=>match p with | .b0 _ C=>C.length<=1000000 | .b1 z _ D=>0<=D/\D<=(z.length:Int)/\z.length<=1000000 | .b2 z _ D _ I=>0<=D/\D<(z.length:Int)/\z.length<=1000000/\0<=I/\I<=8) (fun(p:iK)=>match p with | .b0 ..=>(2,0,0) | .b1 z _ D=>(1,((z.length:Int) - D).toNat,9) | .b2 z _ D _ I=>(1,((z.length:Int) - D).toNat,(8 - I).toNat)) ?_ _ ?_,
  fun q A J N=>CW (fun(p:bH)=>match p with | .b0 _ C=>C=A/\0<=C/\C<=1000000 | .b1 z C _ F=>z=A/\z<=1000000/\0<=F/\F<=z/\(C.length:Int)=F/\DZ C | .b2 z C _ F _ _ M=>z=A/\z<=1000000/\0<=F/\F<z/\(C.length:Int)=F/\DZ C/\0<=M/\M<=8) (fun(p:bH)=>match p with | .b0 ..=>(2,0,0) | .b1 z _ _ F=>(1,(z - F).toNat,9) | .b2 z _ _ F _ _ M=>(1,(z - F).toNat,(8 - M).toNat)) ?_ _ ?_,
  fun q=>Cc (True) ?_ fun hp=>?_,
  fun q A=>Cc (True) ?_ fun hp=>?_,
  fun q A=>Cc (True) ?_ fun hp=>?_,
  fun q A J N=>Cc (BM q/\CY A) ?_ fun hp=>?_,
  fun q A=>Cc (True) ?_ fun hp=>?_,
  fun k q J N O=>Cc (BR k q) ?_ fun hp=>?_,
  fun q A G=>Cc (True) ?_ fun hp=>?_,
  fun q=>Cc (True) ?_ fun hp=>?_,
  fun q=>Cc (True) ?_ fun hp=>?_⟩
 all_goals try (intro p hp;cases p)
 all_goals
  try dsimp only at hp
  try exact False.elim hp
  try have hx:=hp
  try dsimp only[BR,Dl,BM,EE,Cb,F6,Fj,FB]at hx
  try (repeat with_reducible (have Q:=And.left hp;replace hp:=And.right hp))
  try simp only[pK,Z3P,Zck,Zbt,Zed,Zch,XJ,HY,Z1c,fA,Zdv,Z2n,Z2H,N7,ND,ZdY,Z20,Zfi,Zf5,Zdy,ZcO,Zel,Za9,Z9a]
  try dsimp only
  repeat' first|(refine FP ?_;dsimp only;try simp(disch:=omega) only[Ce,CZ,List.nil_append,List.drop_zero])|(refine GH (fun h=>?_) (fun h=>?_)<;>(try simp only[Ht,reduceCtorEq]at h;try simp(disch:=omega) only[Ce]at h))|refine EU ?_ ?_|refine Ii ?_|refine BA (Zbx _ _ _) fun(v:Bool) hm hv=>?_|refine BA (Z2Q _ ?_ ?_) fun(v:Int) hm hv=>?_|refine BA (Zqm _ _ _) fun(v:Int) hm hv=>?_|refine BA (ZxY _ ?_) fun(v:Bool) hm hv=>?_|refine BA (ZxM _ _) fun(v:Bool) hm hv=>?_|refine BA (Zpv _) fun(v:Int) hm hv=>?_|refine BA (rW _) fun(v:CE) hm hv=>?_|refine BA (ZzG _ _ ?_ ?_) fun(v:Jj) hm hv=>?_|refine BA (Zz6 _) fun(v:Bool) hm hv=>?_|refine BA (Znl _) fun(v:Int) hm hv=>?_|refine BA (ZtK) fun(v:Aq) hm hv=>?_|refine Zgi ?_ fun v hv=>?_|refine BA (Zzf _ _) fun(v:Int) hm hv=>?_|refine BA (ZvW _ _ ?_ ?_) fun(v:Int) hm hv=>?_|refine BA (Z45 _ _ ?_ ?_) fun(v:MC) hm hv=>?_|refine TK ?_ fun v hv=>?_|refine BA (Zwb _ _) fun(v:Int) hm hv=>?_|refine BA (Zug _) fun(v:Int) hm hv=>?_|refine BA (Zwx _) fun(v:Int) hm hv=>?_|refine BA (Zwf _ _) fun(v:Int) hm hv=>?_|refine BA (Zfs _) fun(v:ET) hm hv=>?_|refine BA (Zd8 _) fun(v:Bool) hm hv=>?_|refine BA (Zzp _ _) fun(v:Int) hm hv=>?_|refine BA (Zoi _) fun(v:Int) hm hv=>?_|with_reducible apply And.intro|rfl|assumption|exact True.intro|omega|exact decide_eq_true (IP _).1|exact IM (by assumption) (by omega)|exact Ih (by assumption) (by omega)|(refine Gu.2 ?_;first|omega|grind)|(apply IX;first|omega|(simp only[CZ];omega))|(simp only[Ei,CZ,D6,maxLen_eq,kL,kA]<;>omega)|(simp(disch:=omega) only[Ce,decide_eq_true_eq,bne_iff_ne,ne_eq];(repeat' split)<;>omega)|(simp[EJ,Fq];done)|grind|(simp only[Ei,CZ,D6,maxLen_eq,kL,kA]<;>grind)|grind [Ee]
def Znn:=Hu.1
def Zfj:=Hu.2.1
def Zvo:=Hu.2.2.1
def ZrM:=Hu.2.2.2.1
def Zxm:=Hu.2.2.2.2.1
def Zcy:=Hu.2.2.2.2.2.1
def Zbn:=Hu.2.2.2.2.2.2.1
def Z2s:=Hu.2.2.2.2.2.2.2.2.2.1
def Zxb:=Hu.2.2.2.2.2.2.2.2.2.2.1
def Zv6:=Hu.2.2.2.2.2.2.2.2.2.2.2.1
def Ztt:=Hu.2.2.2.2.2.2.2.2.2.2.2.2.1
def ZyN:=Hu.2.2.2.2.2.2.2.2.2.2.2.2.2.1
def Zpo:=Hu.2.2.2.2.2.2.2.2.2.2.2.2.2.2.1
def ZwI:=Hu.2.2.2.2.2.2.2.2.2.2.2.2.2.2.2.1
def ZsO:=Hu.2.2.2.2.2.2.2.2.2.2.2.2.2.2.2.2.1
def ZzV:=Hu.2.2.2.2.2.2.2.2.2.2.2.2.2.2.2.2.2.1
def ZyQ:=Hu.2.2.2.2.2.2.2.2.2.2.2.2.2.2.2.2.2.2.1
def ZwP:=Hu.2.2.2.2.2.2.2.2.2.2.2.2.2.2.2.2.2.2.2.1
def Zvh:=Hu.2.2.2.2.2.2.2.2.2.2.2.2.2.2.2.2.2.2.2.2.1
def Zxs:=Hu.2.2.2.2.2.2.2.2.2.2.2.2.2.2.2.2.2.2.2.2.2.1
def Zqq:=Hu.2.2.2.2.2.2.2.2.2.2.2.2.2.2.2.2.2.2.2.2.2.2.1
def ZoN:=Hu.2.2.2.2.2.2.2.2.2.2.2.2.2.2.2.2.2.2.2.2.2.2.2
end Go.Proofs.YtjodhcdmhobmoaaGreatDoor
