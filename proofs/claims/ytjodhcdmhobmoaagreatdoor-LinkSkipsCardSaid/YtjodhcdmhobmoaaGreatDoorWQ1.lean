/- . -/
import Derived.Test.YtjodhcdmhobmoaaGreatDoorWQ1e
set_option linter.unusedVariables false
set_option linter.unusedSimpArgs false
namespace Go.Proofs.YtjodhcdmhobmoaaGreatDoor
open Go Go.Proofs.YtjodhcdmhobmoaaGreatDoor.Le
open Go Go.Proofs.YtjodhcdmhobmoaaGreatDoor.Le Go.Proofs.YtjodhcdmhobmoaaGreatDoor.Na
set_option maxRecDepth 100000
set_option maxHeartbeats 2000000
set_option linter.defProp false
set_option maxHeartbeats 40000000
theorem QY:(∀(q:Int),∃r,dK q=some r/\True) /\
  (∀(q C F:Int),∃r,Z2Y q C F=some r/\True) /\
  (∀(q C:Int),∃r,Z2f q C=some r/\True) /\
  (∀(q C:Int) (F I:List Int),F.length<=200000->I.length<=200000->∃r,fQ q C F I=some r/\r.length=4/\Cj r) /\
  (∀(q:AZ) (C:AO) (F I:Int),BF q->CV C->R16 F->∃r,rV q C F I=some r/\BF r.1/\CV r.2/\r.1.A8=q.A8) /\
  (∀(q:Int) (C:ByteArray) (F:List Int),X6 U 5 C=true->(KL U 5 C).length<=100->F.length<=1000->∃r,Z1t q C F=some r/\CO r) /\
  (∀(q:List BO) (C F:Int),q.length<=37->∃r,Z0V q C F=some r/\CO r) /\
  (∀(k:Int) (q:Ad) (C:Az),BV k q->Be C->0<=k->k<=1000000->∃r,Z1M q C=some r/\BV k r.1/\r.2.length<=1) /\
  (∀(q:AZ) (C:AO) (F I:Int),BF q->CV C->(C.Kind=0\/C.Kind=1)->∃r,ZF q C F I=some r/\BF r):=by
 refine⟨fun q=>CG (True) ?_ fun hp=>?_,
  fun q C F=>CG (True) ?_ fun hp=>?_,
  fun q C=>CG (True) ?_ fun hp=>?_,
  fun q C F I M N=>CG (F.length<=200000/\I.length<=200000) ?_ fun hp=>?_,
  fun q C F I M N O=>Bd (fun(p:cZ)=>match p with | .b0 z A G _=>BF z/\CV A/\z=q/\R16 G | .b1 z A G _ _=>BF A/\CV G/\(A.A8=q.A8/\R16 z/\(G.Kind=0\/G.Kind=1)) | .b2 z A G _ _=>BF A/\CV G/\A.A8=q.A8/\z=G.Kind | .b3 z A _ _=>BF z/\CV A/\z.A8=q.A8 | .b4 z A _ _=>BF z/\CV A/\z.A8=q.A8 | .b5 z A _ _=>BF z/\CV A/\z.A8=q.A8) (fun(p:cZ)=>match p with | .b0 ..=>(0,0,4) | .b1 ..=>(0,0,3) | .b3 ..=>(0,0,2) | .b4 ..=>(0,0,0)|_=>(0,0,1)) ?_ _ ?_,
  fun q C F M N O=>Bd (fun(p:bP)=>match p with | .b0 _ A G=>X6 U 5 A=true/\(KL U 5 A).length<=100/\G.length<=1000 | .b1 _ A G J=>A.length<=1000/\0<=J/\J<=(A.length:Int)/\(G.length:Int)<=101+8*J) (fun(p:bP)=>match p with | .b0 ..=>(1,0,0) | .b1 _ A _ J=>(0,((A.length:Int) - J).toNat,0)) ?_ _ ?_,
  fun q C F M=>Bd (fun(p:aK)=>match p with | .b0 z _ _=>z.length<=37 | .b1 z _ G=>z.length<=37/\G.length<=37/\IZ G | .b2 z=>z.length<=37/\IZ z) (fun(p:aK)=>match p with | .b0 ..=>(1,0,0) | .b1 _ _ G=>(0,G.length,1) | .b2 ..=>(0,0,0)) ?_ _ ?_,
  fun k q C M N O S=>Bd (fun(p:dM)=>match p with | .b0 z A=>BV k z/\Be A | .b1 z A _=>BV k z/\Be A | .b2 z A _=>z.length<=1/\BV k A) (fun(p:dM)=>match p with | .b0 ..=>(0,0,2) | .b1 ..=>(0,0,1) | .b2 ..=>(0,0,0)) ?_ _ ?_,
  fun q C F I M N O=>Bd (fun(p:Y9)=>match p with | .b0 z A _ _=>BF z/\CV A/\(A.Kind=0\/A.Kind=1) | .b1 z _=>BF z) (fun(p:Y9)=>match p with | .b0 ..=>(0,0,1) | .b1 ..=>(0,0,0)) ?_ _ ?_⟩
 all_goals try (intro p hp;cases p)
 all_goals
  try dsimp only at hp
  try exact False.elim hp
  try have Q:=hp
  try dsimp only[BV,Cm,BF,DW,Be,ES,EW,EE,Ba,Ed,Bh]at Q
  try (repeat with_reducible (have Y:=And.left hp;replace hp:=And.right hp))
  try simp only[Z2j,ZeX,Zct,Z2Z,ZdE,ZbN,Zbj,ZdD,Z80]
  try dsimp only
  repeat' first|(refine D9 ?_;dsimp only;try simp(disch:=omega) only[Bv,Bi,List.nil_append,List.drop_zero])|(refine EN (fun h=>?_) (fun h=>?_)<;>(try simp only[Fe,reduceCtorEq]at h;try simp(disch:=omega) only[Bv]at h))|refine Dq ?_ ?_|refine GN ?_|refine Am (Z2c _ ?_ ?_) fun(v:Int) hm D=>?_|refine Am (ZvV _) fun(v:Int) hm D=>?_|refine Am (Zdz _) fun(v:Int) hm D=>?_|refine Am (Zcl _ _) fun(v:Int) hm D=>?_|refine Am (Zfc _ _) fun(v:Bool) hm D=>?_|refine Am (ZAA _ _) fun(v:Int) hm D=>?_|refine Am (Zwe _ _ _ ?_ ?_) fun(v:UW) hm D=>?_|refine Am (ZCf _ _ ?_) fun(v:Int) hm D=>?_|refine Am (Z3b _ _ ?_ ?_) fun(v:La) hm D=>?_|refine Am (Zxs _ _) fun(v:Int) hm D=>?_|refine Am (Zum _) fun(v:BC) hm D=>?_|refine Am (ZBo _ _ _ ?_ ?_) fun(v:((List BC)×Int)) hm D=>?_|refine ZF1 ?_ fun v D=>?_|refine Am (Zev _) fun(v:(List Int)) hm D=>?_|refine Am (Zvf _ _ ?_ ?_) fun(v:Int) hm D=>?_|refine Am (ZCF _ ?_ ?_) fun(v:Int) hm D=>?_|refine Am (Z28 _) fun(v:Bool) hm D=>?_|refine Am (ZdM _ _ _ ?_) fun(v:Bq) hm D=>?_|refine Am (Zcp _ ?_ ?_) fun(v:(AO×Int)) hm D=>?_|refine Am (ZzT _ _ ?_ ?_) fun(v:(AZ×(List Au))) hm D=>?_|refine Am (ZeM _ _ _ ?_) fun(v:Bq) hm D=>?_|refine Am (Zdp _ _ ?_) fun(v:(List Au)) hm D=>?_|with_reducible apply And.intro|rfl|assumption|exact True.intro|omega|exact decide_eq_true (GG _).1|exact Fz (by assumption) (by omega)|exact Fh (by assumption) (by omega) |  exact GM (by assumption) (by omega)|(refine ET.2 ?_;first|omega|grind)|(apply GX;first|omega|(simp only[Bi];omega))|(simp only[Dp,Bi,Cb,maxLen_eq,kL,kA]<;>omega)|(simp(disch:=omega) only[Bv,decide_eq_true_eq,bne_iff_ne,ne_eq];(repeat' split)<;>omega)|(simp[Di,Eu];done)|grind|(simp only[Dp,Bi,Cb,maxLen_eq,kL,kA]<;>grind)|grind [EG]
def Zvx:=QY.1
def ZBG:=QY.2.1
def ZwK:=QY.2.2.1
def ZC8:=QY.2.2.2.1
def Zwm:=QY.2.2.2.2.1
def Ztq:=QY.2.2.2.2.2.1
def Zrh:=QY.2.2.2.2.2.2.1
def Zvi:=QY.2.2.2.2.2.2.2.1
def Znh:=QY.2.2.2.2.2.2.2.2
theorem Ry:(∀(z:FO),JD z->∃r,Z2i z=some r/\((r=0->Gm z.BL.C9))) /\
  (∀(z:FO) (G F:Int),JD z->∃r,sW z G F=some r/\True) /\
  (∀(z G:Int) (F I:List Int),F.length<=100000->I.length<=100000->∃r,Z2t z G F I=some r/\r.length=I.length+4/\Cj r) /\
  (∀(z:AZ) (G F:Int),BF z->R16 G->∃r,Z1W z G F=some r/\BF r.1/\r.2.length<=8/\F6 r.2) /\
  (∀(z:AZ) (G:AO) (F I:Int),BF z->Ce G->R16 F->∃r,Z27 z G F I=some r/\BF r.1/\r.2.1.length<=1/\F6 r.2.1) /\
  (∀(z G F I:Int),CO F->CO I->∃r,uO z G F I=some r/\FN r) /\
  (∀(z G:Int) (F I:List Int),F.length<=65536->I.length<=65536->∃r,sJ z G F I=some r/\r.1.length<=65536/\Cj r.1) /\
  (∀(z:AZ) (G:AO) (F I:Int),BF z->CV G->∃r,Z1v z G F I=some r/\BF r.1/\r.2.1.length<=8/\F6 r.2.1/\r.2.2.length<=1):=by
 refine⟨fun z M=>Bd (fun(p:dS)=>match p with | .b0 q=>JD q/\q=z | .b1 q=>JD q/\q=z | .b2 q=>JD q/\q=z/\Gm z.BL.C9) (fun(p:dS)=>match p with | .b0 ..=>(0,0,2) | .b1 ..=>(0,0,1) | .b2 ..=>(0,0,0)) ?_ _ ?_,
  fun z G F M=>CG (JD z) ?_ fun hp=>?_,
  fun z G F I M N=>CG (I=I/\F.length<=100000/\I.length<=100000) ?_ fun hp=>?_,
  fun z G F M N=>Bd (fun(p:dN)=>match p with | .b0 q J _=>BF q/\R16 J | .b1 q _ C A _=>C.length<=8/\F6 C/\BF A/\C.length+A.A8.length<=8/\R16 q | .b2 q _ C A _=>C.length<=8/\F6 C/\BF A/\C.length+A.A8.length<=8/\0<A.A8.length/\R16 q | .b3 q J _=>q.length<=8/\F6 q/\BF J | .b4 q _ C A _ O=>C.length<=8/\F6 C/\BF A/\CV O/\C.length+A.A8.length<=7/\R16 q) (fun(p:dN)=>match p with | .b0 ..=>(1,0,0) | .b1 _ _ _ A _=>(0,A.A8.length,2) | .b2 _ _ _ A _=>(0,A.A8.length,1) | .b3 ..=>(0,0,0) | .b4 _ _ _ A _ _=>(0,A.A8.length,3)) ?_ _ ?_,
  fun z G F I M N S=>Bd (fun(p:dZ)=>match p with | .b0 q J C _=>BF q/\Ce J/\R16 C | .b1 q _=>BF q | .b2 q _ C A _=>BF C/\CV A/\R16 q | .b3 q _ C A _=>BF C/\CV A/\R16 q | .b4 q J _=>BF q/\CV J) (fun(p:dZ)=>match p with | .b0 ..=>(0,0,2) | .b2 ..=>(0,0,1)|_=>(0,0,0)) ?_ _ ?_,
  fun z G F I M N=>CG (CO F/\CO I) ?_ fun hp=>?_,
  fun z G F I M N=>CG (F.length<=65536/\I.length<=65536) ?_ fun hp=>?_,
  fun z G F I M N=>Bd (fun(p:aY)=>match p with | .b0 q J _ _=>BF q/\CV J | .b1 _ _ C A _=>BF C/\CV A/\(A.Kind=0\/A.Kind=1) | .b2 _ _ C A _=>BF C/\CV A | .b3 q _=>BF q | .b4 _ J C _=>BF J/\CV C | .b5 _ _ C A _=>BF C/\CV A | .b6 q J _=>BF q/\CV J | .b7 _ _ C A _=>BF C/\CV A | .b8 q J _=>BF q/\CV J | .b9 q J _=>BF q/\CV J) (fun(p:aY)=>match p with | .b0 ..=>(0,0,4) | .b2 ..=>(0,0,3) | .b5 ..=>(0,0,2) | .b7 ..=>(0,0,1)|_=>(0,0,0)) ?_ _ ?_⟩
 all_goals try (intro p hp;cases p)
 all_goals
  try dsimp only at hp
  try exact False.elim hp
  try have Q:=hp
  try dsimp only[BV,Cm,BF,DW,Be,ES,EW,EE,Ba,Ed,Bh]at Q
  try (repeat with_reducible (have Y:=And.left hp;replace hp:=And.right hp))
  try simp only[ZcM,Ze1,Zei,ZdI,ZcS,ZfZ,tV,ZbP]
  try dsimp only
  repeat' first|(refine D9 ?_;dsimp only;try simp(disch:=omega) only[Bv,Bi,List.nil_append,List.drop_zero])|(refine EN (fun h=>?_) (fun h=>?_)<;>(try simp only[Fe,reduceCtorEq]at h;try simp(disch:=omega) only[Bv]at h))|refine Dq ?_ ?_|refine GN ?_|refine Am (Zox _) fun(v:Int) hm D=>?_|refine Am (Zvx _) fun(v:Int) hm D=>?_|refine Am (Zux _ _ _) fun(v:Bool) hm D=>?_|refine Am (ZBG _ _ _) fun(v:Int) hm D=>?_|refine Am (Zdz _) fun(v:Int) hm D=>?_|refine Am (Zcl _ _) fun(v:Int) hm D=>?_|refine Am (ZyI _ _) fun(v:Int) hm D=>?_|refine Am (ZwK _ _) fun(v:Int) hm D=>?_|refine Am (ZsO _ _ _ ?_ ?_) fun(v:(List Int)) hm D=>?_|refine Am (ZAT _ _ ?_) fun(v:QO) hm D=>?_|refine Am (ZC8 _ _ _ _ ?_ ?_) fun(v:(List Int)) hm D=>?_|refine Am (ZBY _ _ ?_ ?_) fun(v:Bool) hm D=>?_|refine vY ?_ fun v D=>?_|refine Am (Zwm _ _ _ _ ?_ ?_ ?_) fun(v:(AZ×AO)) hm D=>?_|refine Am (ZpJ _) fun(v:Bool) hm D=>?_|refine Am (ZuA _ _ ?_ ?_) fun(v:AO) hm D=>?_|refine Am (Z23 _ ?_) fun(v:Int) hm D=>?_|refine Am (ZrJ _ _ ?_) fun(v:Bool) hm D=>?_|refine Am (Ztq _ _ _ (by rfl) (by decide +kernel) ?_) fun(v:Int) hm D=>?_|refine Am (ZyS _ _ ?_ ?_) fun(v:Bool) hm D=>?_|refine Am (bH _) fun(v:CP) hm D=>?_|refine Am (Zf7 _) fun(v:(List AO)) hm D=>?_|refine Am (Znh _ _ _ _ ?_ ?_ ?_) fun(v:AZ) hm D=>?_|refine Am (Zog _ _ _ ?_ ?_) fun(v:(AZ×(List AO)×(List Au))) hm D=>?_|refine Am (Zmw _ _ ?_ ?_) fun(v:(AZ×(List AO)×(List Au))) hm D=>?_|refine Am (Zmj _ _ _ ?_ ?_) fun(v:(AZ×(List AO)×(List Au))) hm D=>?_|refine Am (Znm _ _ ?_ ?_) fun(v:(AZ×(List AO)×(List Au))) hm D=>?_|refine Am (ZoJ _ _ ?_ ?_) fun(v:(AZ×(List AO)×(List Au))) hm D=>?_|with_reducible apply And.intro|rfl|assumption|exact True.intro|omega|exact decide_eq_true (GG _).1|exact Fz (by assumption) (by omega)|exact Fh (by assumption) (by omega) |  exact GM (by assumption) (by omega)|(refine ET.2 ?_;first|omega|grind)|(apply GX;first|omega|(simp only[Bi];omega))|(simp only[Dp,Bi,Cb,maxLen_eq,kL,kA]<;>omega)|(simp(disch:=omega) only[Bv,decide_eq_true_eq,bne_iff_ne,ne_eq];(repeat' split)<;>omega)|(simp[Di,Eu];done)|grind|(simp only[Dp,Bi,Cb,maxLen_eq,kL,kA]<;>grind)|grind [EG]
def Zvz:=Ry.1
def Zz0:=Ry.2.1
def Zya:=Ry.2.2.1
def ZvM:=Ry.2.2.2.1
def Zv2:=Ry.2.2.2.2.1
def Zf5:=Ry.2.2.2.2.2.1
def Zze:=Ry.2.2.2.2.2.2.1
def ZtR:=Ry.2.2.2.2.2.2.2
end Go.Proofs.YtjodhcdmhobmoaaGreatDoor
