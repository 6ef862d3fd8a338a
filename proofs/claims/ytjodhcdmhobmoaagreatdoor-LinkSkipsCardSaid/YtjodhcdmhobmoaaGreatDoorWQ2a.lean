/- . -/
import Derived.Test.YtjodhcdmhobmoaaGreatDoorWQ1
import Derived.Test.YtjodhcdmhobmoaaGreatDoorWF3
import Derived.Test.YtjodhcdmhobmoaaGreatDoorWUn
set_option linter.unusedVariables false
set_option linter.unusedSimpArgs false
namespace Go.Proofs.YtjodhcdmhobmoaaGreatDoor
open Go Go.Proofs.YtjodhcdmhobmoaaGreatDoor.Le
set_option linter.defProp false
set_option maxRecDepth 100000
set_option maxHeartbeats 40000000
open Go Go.Proofs.YtjodhcdmhobmoaaGreatDoor.Le Go.Proofs.YtjodhcdmhobmoaaGreatDoor.Na
theorem SA:(∀(z:Int) (D:FO) (I S Y p5:Int),JD D->CO S->CO Y->∃r,uG z D I S Y p5=some r/\((r.2=0->BV 0 r.1))) /\
  (∀(k:Int) (z:Ad),BV k z->0<=k->k<=1000000->∃r,o6 z=some r/\True) /\
  (∀(z:Bq) (D:BM),FN z->Be D.Aw->∃r,Z2Q z D=some r/\(Be r.1.Aw/\(r.2=0->r.1.Aw.Payload.length<=255))) /\
  (∀(k:Int) (z:Ad) (D:Int),BV k z->0<=k->k<=900000->∃r,rW z D=some r/\BV (k+8) r.1) /\
  (∀(k:Int) (z:Ad) (D:AO) (I:Int),BV k z->Ce D->0<=k->k<=1000000->∃r,MO z D I=some r/\BV (k+1) r.1) /\
  (∀(k:Int) (z:Ad) (D:Int),BV k z->0<=k->k<=1000000->CO D->∃r,Z3l z D=some r/\BV (k+2) r.1) /\
  (∀(z:Bq) (D:BM),FN z->Be D.Aw->∃r,tZ z D=some r/\Be r.1.Aw) /\
  (∀(k:Int) (z:Ad) (D:List Int) (I:Int),BV k z->0<=k->k<=1000000->D.length<=65536->Cj D->∃r,Z0S z D I=some r/\BV (k+8) r.1/\r.2.length<=1):=by
 refine⟨fun z D I S Y p5 J M N=>Bd (fun(p:iF)=>match p with | .b0 _ C _ G Q _=>JD C/\CO G/\CO Q | .b2 A _ F G _ O _=>JD O/\EG A/\CO F/\CO G | .b4 A _ F G _ O _=>JD O/\EG A/\CO F/\CO G/\Gm O.BL.C9|_=>True) (fun(p:iF)=>match p with | .b0 ..=>(0,0,2) | .b2 ..=>(0,0,1)|_=>(0,0,0)) ?_ _ ?_,
  fun k z J M N=>CG (BV k z) ?_ fun hp=>?_,
  fun z D J M=>Bd (fun(p:fO)=>match p with | .b0 A C=>FN A/\Be C.Aw | .b1 A C _=>FN A/\Be C.Aw) (fun(p:fO)=>match p with | .b0 ..=>(0,0,1) | .b1 ..=>(0,0,0)) ?_ _ ?_,
  fun k z D J M N=>Bd (fun(p:dJ)=>match p with | .b0 A _=>BV k A | .b1 _ _ F _=>BV k F | .b2 _ _ F _=>BV k F | .b3 _ _ _ G _=>BV k G | .b4 _ _ F _=>BV k F | .b5 _ C F G Q _ _=>C.length<=4/\F.length<=1/\EY F/\BV k Q/\(C.length:Int)=G/\0<=G/\G<=(F.length:Int) | .b6 A _ F _=>A.length<=4/\BV (k+8) F | .b7 A C _=>A.length<=4/\BV (k+8) C | .b8 _ C _ G _=>C.length<=4/\BV (k+8) G | .b9 A C _=>A.length<=4/\BV (k+8) C) (fun(p:dJ)=>match p with | .b0 ..=>(9,0,0) | .b1 ..=>(8,0,0) | .b2 ..=>(7,0,0) | .b3 ..=>(6,0,0) | .b4 ..=>(5,0,0) | .b5 _ _ F G _ _ _=>(4,((F.length:Int) - G).toNat,0) | .b6 ..=>(1,0,0) | .b8 ..=>(3,0,0)|_=>(2,0,0)) ?_ _ ?_,
  fun k z D I J M N h3=>CG (BV k z/\Ce D) ?_ fun hp=>?_,
  fun k z D J M N h3=>Bd (fun(p:gJ)=>match p with | .b0 A C=>BV k A/\CO C | .b1 A C _=>BV k C/\CO A) (fun(p:gJ)=>match p with | .b0 ..=>(0,0,1) | .b1 ..=>(0,0,0)) ?_ _ ?_,
  fun z D J M=>Bd (fun(p:fB)=>match p with | .b0 A C=>FN A/\Be C.Aw | .b1 A C _=>FN A/\Be C.Aw) (fun(p:fB)=>match p with | .b0 ..=>(0,0,1) | .b1 ..=>(0,0,0)) ?_ _ ?_,
  fun k z D I J M N h3 h4=>Bd (fun(p:aN)=>match p with | .b0 A C _=>BV k A/\C.length<=65536/\Cj C | .b1 A C _ G=>A.length<=1/\BV (k+8) C/\BF G | .b2 A C _=>A.length<=1/\BV (k+8) C) (fun(p:aN)=>match p with | .b0 ..=>(0,0,2) | .b1 ..=>(0,0,1) | .b2 ..=>(0,0,0)) ?_ _ ?_⟩
 all_goals try (intro p hp;cases p)
 all_goals
  try dsimp only at hp
  try exact False.elim hp
  try have hx:=hp
  try dsimp only[BV,Cm,BF,DW,Be,ES,EW,EE,Ba,Ed,Bh]at hx
  try (repeat with_reducible (have hq:=And.left hp;replace hp:=And.right hp))
  try simp only[Zfj,ZaD,ZdL,Zda,ZdG,Zfb,eX,ZaF]
  try dsimp only
  repeat' first|(refine D9 ?_;dsimp only;try simp(disch:=omega) only[Bv,Bi,List.nil_append,List.drop_zero])|(refine EN (fun h=>?_) (fun h=>?_)<;>(try simp only[Fe,reduceCtorEq]at h;try simp(disch:=omega) only[Bv]at h))|refine Dq ?_ ?_|refine GN ?_|refine Am (Zvz _ ?_) fun(v:Int) hm q=>?_|refine Am (Zwv _ _) fun(v:QJ) hm q=>?_|refine Am (ZAh) fun(v:BR) hm q=>?_|refine Am (Zf1 _) fun(v:CW) hm q=>?_|refine Am (ZBm _ _ _ ?_) fun(v:AZ) hm q=>?_|refine Am (ZvD) fun(v:(List BO)) hm q=>?_|refine Am (Zz0 _ _ _ ?_) fun(v:(Int×Int)) hm q=>?_|refine Am (Z1O _) fun(v:Int) hm q=>?_|refine Am (Z28 _) fun(v:Bool) hm q=>?_|refine Am (Zwc _ _ _ ?_) fun(v:Int) hm q=>?_|refine Am (Zya _ _ _ _ ?_ ?_) fun(v:(List Int)) hm q=>?_|refine Am (ZxB _ _) fun(v:BM) hm q=>?_|refine Am (Zdb k _ ?_ ?_ ?_) fun(v:Bool) hm q=>?_|refine Am (ZzG _) fun(v:(CW×Int)) hm q=>?_|refine Am (Zud _ _) fun(v:CW) hm q=>?_|refine Am (ZbB _ _ _ ?_) fun(v:(List BO)) hm q=>?_|refine Am (ZC7 _ _ ?_) fun(v:(AZ×(List BC))) hm q=>?_|refine Am (Zx7 k _ _ ?_ ?_ ?_ ?_) fun(v:Ad) hm q=>?_|refine Am (Zwi k _ ?_ ?_ ?_) fun(v:Int) hm q=>?_|refine Am (ZvM _ _ _ ?_ ?_) fun(v:(AZ×(List AO))) hm q=>?_|refine Am (ZrS _ _ ?_) fun(v:Bool) hm q=>?_|refine Am (ZrK _) fun(v:Int) hm q=>?_|refine iK ?_ fun v q=>?_|refine Am (ZfR (k+8) _ _ ?_ ?_ ?_) fun(v:(Ad×(List Au))) hm q=>?_|refine Am (Zv2 _ _ _ _ ?_ ?_ ?_) fun(v:(AZ×(List AO)×Int)) hm q=>?_|refine Am (Ztf _ _ _ ?_ ?_) fun(v:(AZ×(List AO))) hm q=>?_|refine Am (Zf5 _ _ _ _ ?_ ?_) fun(v:Bq) hm q=>?_|refine Am (ZeM _ _ _ ?_) fun(v:Bq) hm q=>?_|refine Am (Zvr _) fun(v:Int) hm q=>?_|refine Am (Zze _ _ _ _ ?_ ?_) fun(v:((List Int)×Int)) hm q=>?_|refine Am (Zcp _ ?_ ?_) fun(v:(AO×Int)) hm q=>?_|refine Am (ZtR _ _ _ _ ?_ ?_) fun(v:(AZ×(List AO)×(List Au))) hm q=>?_|refine Qd ?_ fun v q=>?_|refine Am (Zdp _ _ ?_) fun(v:(List Au)) hm q=>?_|with_reducible apply And.intro|rfl|assumption|exact True.intro|omega|exact decide_eq_true (GG _).1|exact Fz (by assumption) (by omega)|exact Fh (by assumption) (by omega) |  exact GM (by assumption) (by omega)|(refine ET.2 ?_;first|omega|grind)|(apply GX;first|omega|(simp only[Bi];omega))|(simp only[Dp,Bi,Cb,maxLen_eq,kL,kA]<;>omega)|(simp(disch:=omega) only[Bv,decide_eq_true_eq,bne_iff_ne,ne_eq];(repeat' split)<;>omega)|(simp[Di,Eu];done)|grind|(simp only[Dp,Bi,Cb,maxLen_eq,kL,kA]<;>grind)|grind [EG]
def ZB0:=SA.1
def Zs1:=SA.2.1
def ZzB:=SA.2.2.1
def Zx3:=SA.2.2.2.1
def Zvb:=SA.2.2.2.2.1
def ZAk:=SA.2.2.2.2.2.1
def ZeB:=SA.2.2.2.2.2.2.1
def Zsn:=SA.2.2.2.2.2.2.2
theorem Z45:(∀(k:Int) (D:Ad),BV k D->0<=k->k<=1000000->∃r,sQ D=some r/\BV k r.1/\r.2.length<=300/\Cj r.2) /\
  (∀(k:Int) (D:Ad) (G:Hw) (J:Int),BV k D->EW G->0<=k->k<=1000000->∃r,iO D G J=some r/\BV (k+2) r.1) /\
  (∀(k:Int) (D:Ad) (G:List Int) (J:Bool) (S:Int),BV k D->0<=k->k<=1000000->G.length<=65536->Cj G->∃r,pK D G J S=some r/\BV (k+8) r.1/\r.2.1.length<=4):=by
 refine⟨fun k D N O Q=>Bd (fun(p:fM)=>match p with | .b0 A=>BV k A | .b1 A _ q=>BV k A/\Be q.Aw) (fun(p:fM)=>match p with | .b0 ..=>(0,0,1) | .b1 ..=>(0,0,0)) ?_ _ ?_,
  fun k D G J N O Q h3=>Bd (fun(p:iR)=>match p with | .b0 A F _=>BV k A/\EW F | .b1 _ _ q=>BV (k+2) q | .b2 _ _ q=>BV (k+2) q) (fun(p:iR)=>match p with | .b0 ..=>(0,0,1)|_=>(0,0,0)) ?_ _ ?_,
  fun k D G J S N O Q h3 h4=>Bd (fun(p:aT)=>match p with | .b0 A F _ _=>BV k A/\F.length<=65536/\Cj F | .b1 A _ q _=>BV k q/\A.length<=65536/\Cj A | .b2 A _ q _=>BV k q/\A.length<=65536/\Cj A | .b3 _ _ q _ C=>BV k q/\Be C.Aw | .b4 _ _ q _ C=>BV k q/\Be C.Aw | .b5 _ _ q _ C _=>BV k q/\Be C.Aw/\q.Ar.Open=true/\q.Ar.Empty=false | .b6 _ _ q _ C I=>BV k q/\Be C.Aw/\Be I | .b7 _ _ q _ C _=>BV k q/\Be C.Aw | .b8 _ _ q _ C I=>BV k q/\Be C.Aw/\Be I | .b9 _ _ _ M C _ Y a7=>M.length<=2/\BV k C/\Be Y.Aw/\Be a7 | .b10 _ F q _ C I=>F.length<=2/\BV k q/\Be C.Aw/\Be I | .b11 A F _ M=>A.length<=4/\BV (k+8) F/\Be M.Aw) (fun(p:aT)=>match p with | .b0 ..=>(0,0,11) | .b1 ..=>(0,0,10) | .b2 ..=>(0,0,9) | .b3 ..=>(0,0,8) | .b4 ..=>(0,0,7) | .b5 ..=>(0,0,6) | .b6 ..=>(0,0,5) | .b7 ..=>(0,0,4) | .b8 ..=>(0,0,3) | .b9 ..=>(0,0,2) | .b10 ..=>(0,0,1) | .b11 ..=>(0,0,0)) ?_ _ ?_⟩
 all_goals try (intro p hp;cases p)
 all_goals
  try dsimp only at hp
  try exact False.elim hp
  try have hx:=hp
  try dsimp only[BV,Cm,BF,DW,Be,ES,EW,EE,Ba,Ed,Bh]at hx
  try (repeat with_reducible (have hq:=And.left hp;replace hp:=And.right hp))
  try simp only[Zey,Zgf,Zby]
  try dsimp only
  repeat' first|(refine D9 ?_;dsimp only;try simp(disch:=omega) only[Bv,Bi,List.nil_append,List.drop_zero])|(refine EN (fun h=>?_) (fun h=>?_)<;>(try simp only[Fe,reduceCtorEq]at h;try simp(disch:=omega) only[Bv]at h))|refine Dq ?_ ?_|refine GN ?_|refine Am (Zw4 k _ ?_ ?_ ?_) fun(v:Ad) hm z=>?_|refine Am (ZzF _ ?_) fun(v:(BR×BM)) hm z=>?_|refine Am (ZzB _ _ ?_ ?_) fun(v:(BM×Int)) hm z=>?_|refine Am (Zu3 _ ?_) fun(v:((List Int)×Int)) hm z=>?_|refine Am (Zs1 k _ ?_ ?_ ?_) fun(v:Int) hm z=>?_|refine Am (ZtJ _ _ ?_ ?_) fun(v:(List Int)) hm z=>?_|refine Am (ZcK _ _ ?_) fun(v:Ri) hm z=>?_|refine Am (Zy9 k _ _ ?_ ?_ ?_ ?_) fun(v:(Ad×Int)) hm z=>?_|refine Am (Zvb k _ _ _ ?_ ?_ ?_ ?_) fun(v:(Ad×Int)) hm z=>?_|refine Am (Zu0 _) fun(v:Int) hm z=>?_|refine Am (ZAk k _ _ ?_ ?_ ?_ ?_) fun(v:(Ad×Int)) hm z=>?_|refine Am (Zrh _ _ _ ?_) fun(v:Int) hm z=>?_|refine Am (Zvl _ ?_) fun(v:(List BO)) hm z=>?_|refine Am (Zd8 _ _ ?_ ?_) fun(v:((List Int)×Int)) hm z=>?_|refine Am (ZbB _ _ _ ?_) fun(v:(List BO)) hm z=>?_|refine Am (ZbT _ ?_ ?_) fun(v:(BM×Int)) hm z=>?_|refine Am (Z28 _) fun(v:Bool) hm z=>?_|refine Am (ZeB _ _ ?_ ?_) fun(v:(BM×Int)) hm z=>?_|refine Am (ZfR k _ _ ?_ ?_ ?_) fun(v:(Ad×(List Au))) hm z=>?_|refine Z47 ?_ fun v z=>?_|refine Am (ZeR _ _ ?_ ?_) fun(v:(BR×Az×Bool×Bool)) hm z=>?_|refine Am (Zvi k _ _ ?_ ?_ ?_ ?_) fun(v:(Ad×(List Au))) hm z=>?_|refine Am (ZdM _ _ _ ?_) fun(v:Bq) hm z=>?_|refine Am (Zsn k _ _ _ ?_ ?_ ?_ ?_ ?_) fun(v:(Ad×(List Au))) hm z=>?_|with_reducible apply And.intro|rfl|assumption|exact True.intro|omega|exact decide_eq_true (GG _).1|exact Fz (by assumption) (by omega)|exact Fh (by assumption) (by omega) |  exact GM (by assumption) (by omega)|(refine ET.2 ?_;first|omega|grind)|(apply GX;first|omega|(simp only[Bi];omega))|(simp only[Dp,Bi,Cb,maxLen_eq,kL,kA]<;>omega)|(simp(disch:=omega) only[Bv,decide_eq_true_eq,bne_iff_ne,ne_eq];(repeat' split)<;>omega)|(simp[Di,Eu];done)|grind|(simp only[Dp,Bi,Cb,maxLen_eq,kL,kA]<;>grind)|grind [EG]
def ZxW:=Z45.1
def Zge:=Z45.2.1
def Zsg:=Z45.2.2
end Go.Proofs.YtjodhcdmhobmoaaGreatDoor
