/- A part of it. -/
import Derived.Test.YtjodhcdmhobmoaaGreatDoorQ1
import Derived.Test.YtjodhcdmhobmoaaGreatDoorF3
import Derived.Test.YtjodhcdmhobmoaaGreatDoorRUn
set_option linter.unusedVariables false
set_option linter.unusedSimpArgs false
namespace Go.Proofs.YtjodhcdmhobmoaaGreatDoor
open Go Go.Proofs.YtjodhcdmhobmoaaGreatDoor.Le
set_option linter.defProp false
set_option maxRecDepth 100000
set_option maxHeartbeats 40000000
theorem Qi:(∀(C:Ey),JR C->∃r,Z1e C=some r/\True) /\
  (∀(C:Ey) (p1 p2:Int),JR C->∃r,aA C p1 p2=some r/\True) /\
  (∀(C p1:Int) (p2 F:List Int),p2.length<=100000->F.length<=100000->∃r,pV C p1 p2 F=some r/\r.length=F.length+4/\CU r) /\
  (∀(C:Aa) (p1 p2:Int),BK C->R16 p1->∃r,Z1h C p1 p2=some r/\BK r.1/\r.2.length<=8/\FC r.2) /\
  (∀(C:Aa) (p1:AL) (p2 F:Int),BK C->Bj p1->R16 p2->∃r,Z19 C p1 p2 F=some r/\BK r.1/\r.2.1.length<=1/\FC r.2.1) /\
  (∀(C p1 p2 F:Int),CB p2->CB F->∃r,qJ C p1 p2 F=some r/\Gv r) /\
  (∀(C p1:Int) (p2 F:List Int),p2.length<=65536->F.length<=65536->∃r,Z1S C p1 p2 F=some r/\r.1.length<=65536/\CU r.1) /\
  (∀(C:Aa) (p1:AL) (p2 F:Int),BK C->Bj p1->∃r,Z0x C p1 p2 F=some r/\BK r.1/\r.2.1.length<=8/\FC r.2.1/\r.2.2.length<=1):=by
 refine⟨fun C I=>BG (fun(p:YE)=>match p with | .b0 q=>JR q | .b1 q=>JR q | .b2 q=>JR q) (fun(p:YE)=>match p with | .b0 ..=>(0,0,2) | .b1 ..=>(0,0,1) | .b2 ..=>(0,0,0)) ?_ _ ?_,
  fun C p1 p2 I=>BG (fun(p:Yp)=>match p with | .b0 q _ _=>JR q) (fun(p:Yp)=>(0,0,0)) ?_ _ ?_,
  fun C p1 p2 F I J=>BG (fun(p:bG)=>match p with | .b0 _ _ A z=>z=F/\A.length<=100000/\z.length<=100000) (fun(p:bG)=>(0,0,0)) ?_ _ ?_,
  fun C p1 p2 I J=>BG (fun(p:Y8)=>match p with | .b0 q G _=>BK q/\R16 G | .b1 q _ A z _=>A.length<=8/\FC A/\BK z/\A.length+z.BJ.length<=8/\R16 q | .b2 q _ A z _=>A.length<=8/\FC A/\BK z/\A.length+z.BJ.length<=8/\0<z.BJ.length/\R16 q | .b3 q G _=>q.length<=8/\FC q/\BK G | .b4 q _ A z _ N=>A.length<=8/\FC A/\BK z/\CV N/\A.length+z.BJ.length<=7/\R16 q) (fun(p:Y8)=>match p with | .b0 ..=>(1,0,0) | .b1 _ _ _ z _=>(0,z.BJ.length,2) | .b2 _ _ _ z _=>(0,z.BJ.length,1) | .b3 ..=>(0,0,0) | .b4 _ _ _ z _ _=>(0,z.BJ.length,3)) ?_ _ ?_,
  fun C p1 p2 F I J Q=>BG (fun(p:YY)=>match p with | .b0 q G A _=>BK q/\Bj G/\R16 A | .b1 q _=>BK q | .b2 q _ A z _=>BK A/\CV z/\R16 q | .b3 q _ A z _=>BK A/\CV z/\R16 q | .b4 q G _=>BK q/\CV G) (fun(p:YY)=>match p with | .b0 ..=>(0,0,2) | .b2 ..=>(0,0,1)|_=>(0,0,0)) ?_ _ ?_,
  fun C p1 p2 F I J=>BG (fun(p:bP)=>match p with | .b0 _ _ A z=>CB A/\CB z) (fun(p:bP)=>(0,0,0)) ?_ _ ?_,
  fun C p1 p2 F I J=>BG (fun(p:aO)=>match p with | .b0 _ _ A z=>A.length<=65536/\z.length<=65536) (fun(p:aO)=>(0,0,0)) ?_ _ ?_,
  fun C p1 p2 F I J=>BG (fun(p:X5)=>match p with | .b0 q G _ _=>BK q/\Bj G | .b1 _ _ A z _=>BK A/\Bj z | .b2 _ _ A z _=>BK A/\Bj z | .b3 q _=>BK q | .b4 _ G A _=>BK G/\Bj A | .b5 _ _ A z _=>BK A/\Bj z | .b6 q G _=>BK q/\Bj G | .b7 _ _ A z _=>BK A/\Bj z | .b8 q G _=>BK q/\Bj G | .b9 q G _=>BK q/\Bj G) (fun(p:X5)=>match p with | .b0 ..=>(0,0,4) | .b2 ..=>(0,0,3) | .b5 ..=>(0,0,2) | .b7 ..=>(0,0,1)|_=>(0,0,0)) ?_ _ ?_⟩
 all_goals try (intro p hp;cases p)
 all_goals
  try dsimp only at hp
  try exact False.elim hp
  try have O:=hp
  try dsimp only[BO,DJ,BK,DW,CG,Ef,Em,EN]at O
  try (repeat with_reducible (have S:=And.left hp;replace hp:=And.right hp))
  try simp only[ZaS,Z1B,Z21,ZaA,Zb1,Zcw,ZbW,Z9z]
  try dsimp only
  repeat' first|(refine EM ?_;dsimp only;try simp(disch:=omega) only[Bo,Bh,List.nil_append,List.drop_zero])|(refine EG (fun h=>?_) (fun h=>?_)<;>(try simp only[Fg,reduceCtorEq]at h;try simp(disch:=omega) only[Bo]at h))|refine Dw ?_ ?_|refine Gq ?_|refine Ar (ZjX _) fun(v:Int) hm D=>?_|refine Ar (Zrc _) fun(v:Int) hm D=>?_|refine Ar (Z93 _ _ _) fun(v:Bool) hm D=>?_|refine Ar (Zz1 _ _ _) fun(v:Int) hm D=>?_|refine Ar (Za7 _) fun(v:Int) hm D=>?_|refine Ar (Z9w _ _) fun(v:Int) hm D=>?_|refine Ar (Zu9 _ _) fun(v:Int) hm D=>?_|refine Ar (Zs1 _ _) fun(v:Int) hm D=>?_|refine Ar (ZqA _ _ _ ?_ ?_) fun(v:(List Int)) hm D=>?_|refine Ar (ZzF _ _ ?_) fun(v:PM) hm D=>?_|refine Ar (Zxl _ _ _ _ ?_ ?_) fun(v:(List Int)) hm D=>?_|refine Ar (ZyV _ _ ?_ ?_) fun(v:Bool) hm D=>?_|refine Z3h ?_ fun v D=>?_|refine Ar (ZsU _ _ _ _ ?_ ?_ ?_) fun(v:(Aa×AL)) hm D=>?_|refine Ar (Zls _) fun(v:Bool) hm D=>?_|refine Ar (Zqz _ _ ?_ ?_) fun(v:AL) hm D=>?_|refine Ar (Z11 _ ?_) fun(v:Int) hm D=>?_|refine Ar (ZmY _ _ ?_) fun(v:Bool) hm D=>?_|refine Ar (ZqK _ _ _ (by rfl) (by decide +kernel) ?_) fun(v:Int) hm D=>?_|refine Ar (ZwX _ _ ?_ ?_) fun(v:Bool) hm D=>?_|refine Ar (UW _) fun(v:Be) hm D=>?_|refine Ar (Z2y _) fun(v:(List AL)) hm D=>?_|refine Ar (ZhV _ _ _ _ ?_ ?_) fun(v:Aa) hm D=>?_|refine Ar (Zjh _ _ _ ?_ ?_) fun(v:(Aa×(List AL)×(List BB))) hm D=>?_|refine Ar (Zj3 _ _ ?_ ?_) fun(v:(Aa×(List AL)×(List BB))) hm D=>?_|refine Ar (Zip _ _ _ ?_ ?_) fun(v:(Aa×(List AL)×(List BB))) hm D=>?_|refine Ar (ZiR _ _ ?_ ?_) fun(v:(Aa×(List AL)×(List BB))) hm D=>?_|refine Ar (Zkm _ _ ?_ ?_) fun(v:(Aa×(List AL)×(List BB))) hm D=>?_|with_reducible apply And.intro|rfl|assumption|exact True.intro|omega|exact decide_eq_true (GM _).1|exact GI (by assumption) (by omega)|exact Gp (by assumption) (by omega)|(refine FV.2 ?_;first|omega|grind)|(apply GX;first|omega|(simp only[Bh];omega))|(simp only[ED,Bh,Cf,maxLen_eq,kL,kA]<;>omega)|(simp(disch:=omega) only[Bo,decide_eq_true_eq,bne_iff_ne,ne_eq];(repeat' split)<;>omega)|(simp[D8,Ez];done)|grind|(simp only[ED,Bh,Cf,maxLen_eq,kL,kA]<;>grind)|grind [Di]
def ZtN:=Qi.1
def ZvS:=Qi.2.1
def ZvZ:=Qi.2.2.1
def Zrt:=Qi.2.2.2.1
def ZrT:=Qi.2.2.2.2.1
def ZxW:=Qi.2.2.2.2.2.1
def ZuU:=Qi.2.2.2.2.2.2.1
def Zoa:=Qi.2.2.2.2.2.2.2
theorem Qc:(∀(C:Int) (p1:Ey) (p2 O Q Y:Int),JR p1->CB O->CB Q->∃r,qA C p1 p2 O Q Y=some r/\((r.2=0->BO 0 r.1))) /\
  (∀(k:Int) (C:A8),BO k C->0<=k->k<=1000000->∃r,QR C=some r/\True) /\
  (∀(C:Cb) (p1:BD),Gv C->CG p1.Ak->∃r,Uf C p1=some r/\(CG r.1.Ak/\(r.2=0->r.1.Ak.Payload.length<=255))) /\
  (∀(k:Int) (C:A8) (p1:Int),BO k C->0<=k->k<=900000->∃r,nK C p1=some r/\BO (k+8) r.1) /\
  (∀(k:Int) (C:A8) (p1:AL) (p2:Int),BO k C->Bj p1->0<=k->k<=1000000->∃r,LV C p1 p2=some r/\BO (k+1) r.1) /\
  (∀(k:Int) (C:A8) (p1:Int),BO k C->0<=k->k<=1000000->CB p1->∃r,Z2U C p1=some r/\BO (k+2) r.1) /\
  (∀(C:Cb) (p1:BD),Gv C->CG p1.Ak->∃r,Z1X C p1=some r/\CG r.1.Ak) /\
  (∀(k:Int) (C:A8) (p1:List Int) (p2:Int),BO k C->0<=k->k<=1000000->p1.length<=65536->CU p1->∃r,Z0d C p1 p2=some r/\BO (k+8) r.1/\r.2.length<=1):=by
 refine⟨fun C p1 p2 O Q Y G I J=>BG (fun(p:dX)=>match p with | .b0 _ A _ F M _=>JR A/\CB F/\CB M | .b2 q _ D F _ N _=>JR N/\Di q/\CB D/\CB F | .b4 q _ D F _ N _=>JR N/\Di q/\CB D/\CB F|_=>True) (fun(p:dX)=>match p with | .b0 ..=>(0,0,2) | .b2 ..=>(0,0,1)|_=>(0,0,0)) ?_ _ ?_,
  fun k C G I J=>BG (fun(p:X3)=>match p with | .b0 q=>BO k q) (fun(p:X3)=>(0,0,0)) ?_ _ ?_,
  fun C p1 G I=>BG (fun(p:bJ)=>match p with | .b0 q A=>Gv q/\CG A.Ak | .b1 q A _=>Gv q/\CG A.Ak) (fun(p:bJ)=>match p with | .b0 ..=>(0,0,1) | .b1 ..=>(0,0,0)) ?_ _ ?_,
  fun k C p1 G I J=>BG (fun(p:Yi)=>match p with | .b0 q _=>BO k q | .b1 _ _ D _=>BO k D | .b2 _ _ D _=>BO k D | .b3 _ _ _ F _=>BO k F | .b4 _ _ D _=>BO k D | .b5 _ A D F M _ _=>A.length<=4/\D.length<=1/\FT D/\BO k M/\(A.length:Int)=F/\0<=F/\F<=(D.length:Int) | .b6 q _ D _=>q.length<=4/\BO (k+8) D | .b7 q A _=>q.length<=4/\BO (k+8) A | .b8 _ A _ F _=>A.length<=4/\BO (k+8) F | .b9 q A _=>q.length<=4/\BO (k+8) A) (fun(p:Yi)=>match p with | .b0 ..=>(9,0,0) | .b1 ..=>(8,0,0) | .b2 ..=>(7,0,0) | .b3 ..=>(6,0,0) | .b4 ..=>(5,0,0) | .b5 _ _ D F _ _ _=>(4,((D.length:Int) - F).toNat,0) | .b6 ..=>(1,0,0) | .b8 ..=>(3,0,0)|_=>(2,0,0)) ?_ _ ?_,
  fun k C p1 p2 G I J S=>BG (fun(p:YG)=>match p with | .b0 q A _=>BO k q/\Bj A) (fun(p:YG)=>(0,0,0)) ?_ _ ?_,
  fun k C p1 G I J S=>BG (fun(p:dD)=>match p with | .b0 q A=>BO k q/\CB A | .b1 q A _=>BO k A/\CB q) (fun(p:dD)=>match p with | .b0 ..=>(0,0,1) | .b1 ..=>(0,0,0)) ?_ _ ?_,
  fun C p1 G I=>BG (fun(p:Yx)=>match p with | .b0 q A=>Gv q/\CG A.Ak | .b1 q A _=>Gv q/\CG A.Ak) (fun(p:Yx)=>match p with | .b0 ..=>(0,0,1) | .b1 ..=>(0,0,0)) ?_ _ ?_,
  fun k C p1 p2 G I J S h4=>BG (fun(p:XP)=>match p with | .b0 q A _=>BO k q/\A.length<=65536/\CU A | .b1 q A _ F=>q.length<=1/\BO (k+8) A/\BK F | .b2 q A _=>q.length<=1/\BO (k+8) A) (fun(p:XP)=>match p with | .b0 ..=>(0,0,2) | .b1 ..=>(0,0,1) | .b2 ..=>(0,0,0)) ?_ _ ?_⟩
 all_goals try (intro p hp;cases p)
 all_goals
  try dsimp only at hp
  try exact False.elim hp
  try have hx:=hp
  try dsimp only[BO,DJ,BK,DW,CG,Ef,Em,EN]at hx
  try (repeat with_reducible (have hq:=And.left hp;replace hp:=And.right hp))
  try simp only[Zdi,mO,Oy,Zad,Z9Z,Zco,ZbL,Z8V]
  try dsimp only
  repeat' first|(refine EM ?_;dsimp only;try simp(disch:=omega) only[Bo,Bh,List.nil_append,List.drop_zero])|(refine EG (fun h=>?_) (fun h=>?_)<;>(try simp only[Fg,reduceCtorEq]at h;try simp(disch:=omega) only[Bo]at h))|refine Dw ?_ ?_|refine Gq ?_|refine Ar (ZtN _ ?_) fun(v:Int) hm z=>?_|refine Ar (ZqW _ _) fun(v:Oz) hm z=>?_|refine Ar (ZxZ) fun(v:BQ) hm z=>?_|refine Ar (Zdd _) fun(v:Dv) hm z=>?_|refine Ar (ZxJ _ _ _ ?_) fun(v:Aa) hm z=>?_|refine Ar (ZrJ) fun(v:(List BV)) hm z=>?_|refine Ar (ZvS _ _ _ ?_) fun(v:(Int×Int)) hm z=>?_|refine Ar (oI _) fun(v:Int) hm z=>?_|refine Ar (Z1u _) fun(v:Bool) hm z=>?_|refine Ar (Zu4 _ _ _ ?_) fun(v:Int) hm z=>?_|refine Ar (ZvZ _ _ _ _ ?_ ?_) fun(v:(List Int)) hm z=>?_|refine Ar (ZuC _ _) fun(v:BD) hm z=>?_|refine Ar (Zav k _ ?_ ?_ ?_) fun(v:Bool) hm z=>?_|refine Ar (ZvL _) fun(v:(Dv×Int)) hm z=>?_|refine Ar (Zpf _ _) fun(v:Dv) hm z=>?_|refine Ar (Z9u _ _ _ ?_) fun(v:(List BV)) hm z=>?_|refine Ar (ZzH _ _ ?_) fun(v:(Aa×(List BP))) hm z=>?_|refine Ar (Zsz k _ _ ?_ ?_ ?_ ?_) fun(v:A8) hm z=>?_|refine Ar (ZsL k _ ?_ ?_ ?_) fun(v:Int) hm z=>?_|refine Ar (Zrt _ _ _ ?_ ?_) fun(v:(Aa×(List AL))) hm z=>?_|refine Ar (ZmU _ _ ?_) fun(v:Bool) hm z=>?_|refine Ar (ZnE _) fun(v:Int) hm z=>?_|refine Z3d ?_ fun v z=>?_|refine Ar (Zct (k+8) _ _ ?_ ?_ ?_) fun(v:(A8×(List BB))) hm z=>?_|refine Ar (ZrT _ _ _ _ ?_ ?_ ?_) fun(v:(Aa×(List AL)×Int)) hm z=>?_|refine Ar (ZpJ _ _ _ ?_ ?_) fun(v:(Aa×(List AL))) hm z=>?_|refine Ar (ZxW _ _ _ _ ?_ ?_) fun(v:Cb) hm z=>?_|refine Ar (Zby _ _ _ ?_) fun(v:Cb) hm z=>?_|refine Ar (ZtS _) fun(v:Int) hm z=>?_|refine Ar (ZuU _ _ _ _ ?_ ?_) fun(v:((List Int)×Int)) hm z=>?_|refine Ar (Z9q _ ?_ ?_) fun(v:(AL×Int)) hm z=>?_|refine Ar (Zoa _ _ _ _ ?_ ?_) fun(v:(Aa×(List AL)×(List BB))) hm z=>?_|refine Qp ?_ fun v z=>?_|refine Ar (Zar _ _ ?_) fun(v:(List BB)) hm z=>?_|with_reducible apply And.intro|rfl|assumption|exact True.intro|omega|exact decide_eq_true (GM _).1|exact GI (by assumption) (by omega)|exact Gp (by assumption) (by omega)|(refine FV.2 ?_;first|omega|grind)|(apply GX;first|omega|(simp only[Bh];omega))|(simp only[ED,Bh,Cf,maxLen_eq,kL,kA]<;>omega)|(simp(disch:=omega) only[Bo,decide_eq_true_eq,bne_iff_ne,ne_eq];(repeat' split)<;>omega)|(simp[D8,Ez];done)|grind|(simp only[ED,Bh,Cf,maxLen_eq,kL,kA]<;>grind)|grind [Di]
def Zxp:=Qc.1
def Znm:=Qc.2.1
def ZbK:=Qc.2.2.1
def Ztx:=Qc.2.2.2.1
def Zrv:=Qc.2.2.2.2.1
def ZyU:=Qc.2.2.2.2.2.1
def Zw8:=Qc.2.2.2.2.2.2.1
def ZnC:=Qc.2.2.2.2.2.2.2
theorem Z3r:(∀(k:Int) (D:A8),BO k D->0<=k->k<=1000000->∃r,PD D=some r/\BO k r.1/\r.2.length<=300/\CU r.2) /\
  (∀(k:Int) (D:A8) (p1:Gi) (p2:Int),BO k D->Em p1->0<=k->k<=1000000->∃r,eP D p1 p2=some r/\BO (k+2) r.1) /\
  (∀(k:Int) (D:A8) (p1:List Int) (p2:Bool) (O:Int),BO k D->0<=k->k<=1000000->p1.length<=65536->CU p1->∃r,lZ D p1 p2 O=some r/\BO (k+8) r.1/\r.2.1.length<=4):=by
 refine⟨fun k D J M N=>BG (fun(p:Yv)=>match p with | .b0 A=>BO k A | .b1 A _ q=>BO k A/\CG q.Ak) (fun(p:Yv)=>match p with | .b0 ..=>(0,0,1) | .b1 ..=>(0,0,0)) ?_ _ ?_,
  fun k D p1 p2 J M N Y=>BG (fun(p:eY)=>match p with | .b0 A F _=>BO k A/\Em F | .b1 _ _ q=>BO (k+2) q | .b2 _ _ q=>BO (k+2) q) (fun(p:eY)=>match p with | .b0 ..=>(0,0,1)|_=>(0,0,0)) ?_ _ ?_,
  fun k D p1 p2 O J M N Y h4=>BG (fun(p:XZ)=>match p with | .b0 A F _ _=>BO k A/\F.length<=65536/\CU F | .b1 A _ q _=>BO k q/\A.length<=65536/\CU A | .b2 A _ q _=>BO k q/\A.length<=65536/\CU A | .b3 _ _ q _ C=>BO k q/\CG C.Ak | .b4 _ _ q _ C=>BO k q/\CG C.Ak | .b5 _ _ q _ C _=>BO k q/\CG C.Ak/\q.Az.Open=true/\q.Az.Empty=false | .b6 _ _ q _ C G=>BO k q/\CG C.Ak/\CG G | .b7 _ _ q _ C _=>BO k q/\CG C.Ak | .b8 _ _ q _ C G=>BO k q/\CG C.Ak/\CG G | .b9 _ _ _ I C _ Q S=>I.length<=2/\BO k C/\CG Q.Ak/\CG S | .b10 _ F q _ C G=>F.length<=2/\BO k q/\CG C.Ak/\CG G | .b11 A F _ I=>A.length<=4/\BO (k+8) F/\CG I.Ak) (fun(p:XZ)=>match p with | .b0 ..=>(0,0,11) | .b1 ..=>(0,0,10) | .b2 ..=>(0,0,9) | .b3 ..=>(0,0,8) | .b4 ..=>(0,0,7) | .b5 ..=>(0,0,6) | .b6 ..=>(0,0,5) | .b7 ..=>(0,0,4) | .b8 ..=>(0,0,3) | .b9 ..=>(0,0,2) | .b10 ..=>(0,0,1) | .b11 ..=>(0,0,0)) ?_ _ ?_⟩
 all_goals try (intro p hp;cases p)
 all_goals
  try dsimp only at hp
  try exact False.elim hp
  try have hx:=hp
  try dsimp only[BO,DJ,BK,DW,CG,Ef,Em,EN]at hx
  try (repeat with_reducible (have hq:=And.left hp;replace hp:=And.right hp))
  try simp only[Nz,Zds,Z8b]
  try dsimp only
  repeat' first|(refine EM ?_;dsimp only;try simp(disch:=omega) only[Bo,Bh,List.nil_append,List.drop_zero])|(refine EG (fun h=>?_) (fun h=>?_)<;>(try simp only[Fg,reduceCtorEq]at h;try simp(disch:=omega) only[Bo]at h))|refine Dw ?_ ?_|refine Gq ?_|refine Ar (Z12 k _ ?_ ?_ ?_) fun(v:A8) hm z=>?_|refine Ar (Z2b _ ?_) fun(v:(BQ×BD)) hm z=>?_|refine Ar (ZbK _ _ ?_ ?_) fun(v:(BD×Int)) hm z=>?_|refine Ar (Z9J _ ?_) fun(v:((List Int)×Int)) hm z=>?_|refine Ar (Znm k _ ?_ ?_ ?_) fun(v:Int) hm z=>?_|refine Ar (Z9B _ _ ?_ ?_) fun(v:(List Int)) hm z=>?_|refine Ar (Zr1 _ _ ?_) fun(v:QV) hm z=>?_|refine Ar (ZwF k _ _ ?_ ?_ ?_ ?_) fun(v:(A8×Int)) hm z=>?_|refine Ar (Zrv k _ _ _ ?_ ?_ ?_ ?_) fun(v:(A8×Int)) hm z=>?_|refine Ar (Zop _) fun(v:Int) hm z=>?_|refine Ar (ZyU k _ _ ?_ ?_ ?_ ?_) fun(v:(A8×Int)) hm z=>?_|refine Ar (ZnV _ _ _ ?_) fun(v:Int) hm z=>?_|refine Ar (Zu1 _ ?_) fun(v:(List BV)) hm z=>?_|refine Ar (Zrg _ _ ?_ ?_) fun(v:((List Int)×Int)) hm z=>?_|refine Ar (Z9u _ _ _ ?_) fun(v:(List BV)) hm z=>?_|refine Ar (ZqI _ ?_ ?_) fun(v:(BD×Int)) hm z=>?_|refine Ar (Z1u _) fun(v:Bool) hm z=>?_|refine Ar (Zw8 _ _ ?_ ?_) fun(v:(BD×Int)) hm z=>?_|refine Ar (Zct k _ _ ?_ ?_ ?_) fun(v:(A8×(List BB))) hm z=>?_|refine Ze9 ?_ fun v z=>?_|refine Ar (ZwQ _ _ ?_ ?_) fun(v:(BQ×Aw×Bool×Bool)) hm z=>?_|refine Ar (Zti k _ _ ?_ ?_ ?_ ?_) fun(v:(A8×(List BB))) hm z=>?_|refine Ar (Zbs _ _ _ ?_) fun(v:Cb) hm z=>?_|refine Ar (ZnC k _ _ _ ?_ ?_ ?_ ?_ ?_) fun(v:(A8×(List BB))) hm z=>?_|with_reducible apply And.intro|rfl|assumption|exact True.intro|omega|exact decide_eq_true (GM _).1|exact GI (by assumption) (by omega)|exact Gp (by assumption) (by omega)|(refine FV.2 ?_;first|omega|grind)|(apply GX;first|omega|(simp only[Bh];omega))|(simp only[ED,Bh,Cf,maxLen_eq,kL,kA]<;>omega)|(simp(disch:=omega) only[Bo,decide_eq_true_eq,bne_iff_ne,ne_eq];(repeat' split)<;>omega)|(simp[D8,Ez];done)|grind|(simp only[ED,Bh,Cf,maxLen_eq,kL,kA]<;>grind)|grind [Di]
def Z2e:=Z3r.1
def ZdS:=Z3r.2.1
def Znp:=Z3r.2.2
theorem ZiK:∀(k:Int) (Y:Ej) (p1:CQ) (p2:Int) (p3:Bool) (p4:Int),Ir Y->0<=k->k<=500000->DW k p1->∃r,yA Y p1 p2 p3 p4=some r/\DW (k+200) r.1:=by
 refine fun k Y p1 p2 p3 p4 h0 h1 h2 h3=>BG (fun(p:Wl)=>match p with | .b0 N D _ _ _=>Ir N/\DW k D | .b1 _ _ _ z G q _=>Ir G/\DW (k+2*z) q/\0<=z/\z<=8 | .b2 _ _ _ z G q _=>Ir G/\DW (k+2*z) q/\0<=z/\z<8/\z<(G.RQ.length:Int) | .b3 _ _ _ z G _=>Ir z/\DW (k+16) G | .b4 _ _ _ z G q _=>Ir G/\DW (k+2*z+2) q/\0<=z/\z<8 | .b5 _ _ _ z G q _ A=>Ir G/\Em A/\(DW (k+2*z) q/\0<=z/\z<8/\(A.Side=0\/A.Side=1)) | .b6 _ _ _ z _ q J A _=>Ir J/\DW (k+16+20*q) A/\0<=q/\q<=6/\z<=6 | .b7 _ D _=>DW (k+150) D | .b8 _ _ _ z _ q J A _=>Ir J/\DW (k+16+20*q) A/\0<=q/\q<6/\q<z/\z<=6 | .b9 _ _ _ z _=>DW (k+150) z | .b10 _ _ _ z _ q J A S C _=>Ir S/\(DW (k+16+20*q) C/\0<=q/\q<6/\q<z/\z<=6/\(J=0\/J=1)/\A.length<=300/\CU A) | .b11 _ D _=>DW (k+150) D | .b12 _ D _=>DW (k+150) D | .b13 _ _ _ z _ q _ A _ C F I _=>A.length<=4/\Ir F/\DW (k+16+20*q+8+2*C) I/\0<=q/\q<6/\q<z/\z<=6/\A.length<=4/\0<=C/\C<=(A.length:Int) | .b14 _ D O _=>DW (k+150+8*D) O/\0<=D/\D<=2 | .b15 _ _ _ z _ q _ A _ C F I _=>A.length<=4/\Ir F/\DW (k+16+20*q+8+2*C) I/\0<=q/\q<6/\q<z/\z<=6/\A.length<=4/\0<=C/\C<(A.length:Int) | .b16 _ _ _ z _ q _ A _ C F I _=>A.length<=4/\Ir F/\DW (k+16+20*q+10+2*C) I/\0<=q/\q<6/\q<z/\z<=6/\A.length<=4/\0<=C/\C<(A.length:Int) | .b17 _ _ _ z _ q J A _=>Ir J/\DW (k+16+20*q+20) A/\0<=q/\q<6/\z<=6) (fun(p:Wl)=>match p with | .b0 ..=>(5,0,0) | .b1 _ _ _ z _ _ _=>(4,(8 - z).toNat,3) | .b2 _ _ _ z _ _ _=>(4,(8 - z).toNat,2) | .b3 ..=>(3,0,0) | .b4 _ _ _ z _ _ _=>(4,(8 - z).toNat,0) | .b5 _ _ _ z _ _ _ _=>(4,(8 - z).toNat,1) | .b6 _ _ _ _ _ q _ _ _=>(2,(6 - q).toNat,200) | .b8 _ _ _ _ _ q _ _ _=>(2,(6 - q).toNat,199) | .b9 ..=>(1,1,0) | .b10 _ _ _ _ _ q _ _ _ _ _=>(2,(6 - q).toNat,198) | .b13 _ _ _ _ _ q _ A _ C _ _ _=>(2,(6 - q).toNat,(45+(10*((A.length:Int) - C))).toNat) | .b14 _ D _ _=>(0,(2 - D).toNat,0) | .b15 _ _ _ _ _ q _ A _ C _ _ _=>(2,(6 - q).toNat,(44+(10*((A.length:Int) - C))).toNat) | .b16 _ _ _ _ _ q _ A _ C _ _ _=>(2,(6 - q).toNat,(43+(10*((A.length:Int) - C))).toNat) | .b17 _ _ _ _ _ q _ _ _=>(2,(6 - q).toNat,1)|_=>(1,0,0)) ?_ _ ?_
 all_goals try (intro p hp;cases p)
 case' b5 N D O z G q J A=>
  have M:=ZdS (k+2*z)
 case' b8 N D O z G q J A S=>
  have M:=Z2e (k+(16+20*q))
 case' b10 N D O z G q J A S C F=>
  have M:=Znp (k+(16+20*q))
 case' b14 N D O z=>
  have M:=Ztx (k+(150+8*D))
 case' b15 N D O z G q J A S C F I a12=>
  have M:=ZdS (k+(16+20*q+8+2*C))
 all_goals
  try dsimp only at hp
  try exact False.elim hp
  try have hx:=hp
  try dsimp only[BO,DJ,BK,DW,CG,Ef,Em,EN]at hx
  try (repeat with_reducible (have hq:=And.left hp;replace hp:=And.right hp))
  try simp only[Z6r]
  try dsimp only
  repeat' first|(refine EM ?_;dsimp only;try simp(disch:=omega) only[Bo,Bh,List.nil_append,List.drop_zero])|(refine EG (fun h=>?_) (fun h=>?_)<;>(try simp only[Fg,reduceCtorEq]at h;try simp(disch:=omega) only[Bo]at h))|refine Dw ?_ ?_|refine Gq ?_|refine ZCS ?_ fun v Q=>?_|refine Ar (Zav (k+16) _ ?_ ?_ ?_) fun(v:Bool) hm Q=>?_|refine Ar (M _ _ _ ?_ ?_ ?_ ?_) fun(v:(A8×Int)) hm Q=>?_|refine Ar (M _ ?_ ?_ ?_) fun(v:(A8×(List Int))) hm Q=>?_|refine Ar (M _ _ _ _ ?_ ?_ ?_ ?_ ?_) fun(v:(A8×(List BB)×Bool)) hm Q=>?_|refine Zdz ?_ fun v Q=>?_|refine Ar (M _ _ ?_ ?_ ?_) fun(v:(A8×(List BB))) hm Q=>?_|with_reducible apply And.intro|rfl|assumption|exact True.intro|omega|exact decide_eq_true (GM _).1|exact GI (by assumption) (by omega)|exact Gp (by assumption) (by omega)|(refine FV.2 ?_;first|omega|grind)|(apply GX;first|omega|(simp only[Bh];omega))|(simp only[ED,Bh,Cf,maxLen_eq,kL,kA]<;>omega)|(simp(disch:=omega) only[Bo,decide_eq_true_eq,bne_iff_ne,ne_eq];(repeat' split)<;>omega)|(simp[D8,Ez];done)|grind|(simp only[ED,Bh,Cf,maxLen_eq,kL,kA]<;>grind)|grind [Di]
theorem ZkM:∀(D:Iy),EN D->∃r,zY D=some r/\((r.2.2=true->BO 20000 r.1)):=by
 refine fun D M=>BG (fun(p:XB)=>match p with | .b0 q=>EN q | .b1 ..=>True | .b2 q _=>EN q/\q.Events.length<=60/\Di q.Bz | .b3 q z _ C=>EN z/\((0<q->BO 0 C.x0)/\(1<q->BO 0 C.x1)/\0<=q/\q<=2/\z.Events.length<=60/\Di z.Bz) | .b4 _ z A _ F=>EN A/\DW (200*z) F/\0<=z/\z<=(A.Events.length:Int)/\A.Events.length<=60/\Di A.Bz) (fun(p:XB)=>match p with | .b0 ..=>(4,0,0) | .b1 ..=>(0,0,0) | .b2 ..=>(3,0,0) | .b3 q _ _ _=>(2,(2 - q).toNat,0) | .b4 _ z A _ _=>(1,((A.Events.length:Int) - z).toNat,0)) ?_ _ ?_
 all_goals try (intro p hp;cases p)
 case' b4 q z A C F=>
  have I:=ZiK (200*z)
 all_goals
  try dsimp only at hp
  try exact False.elim hp
  try have J:=hp
  try dsimp only[BO,DJ,BK,DW,CG,Ef,Em,EN]at J
  try (repeat with_reducible (have N:=And.left hp;replace hp:=And.right hp))
  try simp only[Z6Q]
  try dsimp only
  repeat' first|(refine EM ?_;dsimp only;try simp(disch:=omega) only[Bo,Bh,List.nil_append,List.drop_zero])|(refine EG (fun h=>?_) (fun h=>?_)<;>(try simp only[Fg,reduceCtorEq]at h;try simp(disch:=omega) only[Bo]at h))|refine Dw ?_ ?_|refine Gq ?_|refine Ar (Zxp _ _ _ _ _ _ ?_ ?_ ?_) fun(v:(A8×Int)) hm G=>?_|refine Ar (I _ _ _ _ _ ?_ ?_ ?_ ?_) fun(v:(CQ×Int)) hm G=>?_|refine ZAZ ?_ fun v G=>?_|with_reducible apply And.intro|rfl|assumption|exact True.intro|omega|exact decide_eq_true (GM _).1|exact GI (by assumption) (by omega)|exact Gp (by assumption) (by omega)|(refine FV.2 ?_;first|omega|grind)|(apply GX;first|omega|(simp only[Bh];omega))|(simp only[ED,Bh,Cf,maxLen_eq,kL,kA]<;>omega)|(simp(disch:=omega) only[Bo,decide_eq_true_eq,bne_iff_ne,ne_eq];(repeat' split)<;>omega)|(simp[D8,Ez];done)|grind|(simp only[ED,Bh,Cf,maxLen_eq,kL,kA]<;>grind)|grind [Di]
theorem ZzN (m:Nat) (hm:m<=100) (v:Int) (h:Eh v):∀(d j:Nat),j+d=m->AV Ux (.b1 (v / 256 ^ j) m (num j v) j)=some ⟨num m v⟩:=by
 intro d;induction d with
 | zero=>
  intro j A;obtain rfl:j=m:=by omega
  refine(AZ _ _).trans ?_;simp(disch:=omega) only[Ux,Int.lt_irrefl,DN,SL,SM]
 | succ d D=>
  intro j A;have p:(0:Int)<256 ^ j:=by exact_mod_cast Nat.pow_pos (by decide)
  have q:0<=v / 256 ^ j:=Int.ediv_nonneg h.1 (Int.le_of_lt p);have F : v / 256 ^ j<18446744073709551616:=Int.lt_of_le_of_lt (Int.ediv_le_self _ h.1) h.2;have z:j<m:=by omega
  have C:=Es j v;rw[<- D (j+1) (by omega),Z2Z];refine(AZ _ _).trans ?_;simp(disch:=omega) only[Ux,z,C,Int.tmod_eq_emod_of_nonneg q,Int.tdiv_eq_ediv_of_nonneg q,DN,SL,SM];rw[Oq (by omega) (by omega),wu64 (by omega) (by omega),Int.ediv_ediv_of_nonneg (by omega),Int.pow_succ]
theorem VE (m:Nat) (hm:m<=100) (v:Int) (h:Eh v):Hf v m=some ⟨num m v⟩:=(AZ _ _).trans (by
 simp only[Ux,DN,SL,SM];have:=ZzN m hm v h m 0 (by omega);simpa[num]using this)
theorem putW (m:Nat) (hm:m<=100) (v:Int):Hf (IntKind.wrap .u64 v) m=some ⟨num m (IntKind.wrap .u64 v)⟩:=VE m hm _ (wG v)
def updB (u:DL):List Int:=num 1 (IntKind.wrap .u64 u.ET)++num 2 (IntKind.wrap .u64 u.ES)++num 2 (IntKind.wrap .u64 u.Dl)++num 2 (IntKind.wrap .u64 u.Dx)++num 2 (IntKind.wrap .u64 u.Ea)
theorem Z3k (u:DL):(updB u).length=9:=by simp[updB,Es]
theorem Zt9 (u:DL):lF u=some (updB u):=(AZ _ _).trans (by
 have q:∀v,Hf (IntKind.wrap .u64 v) 1=some ⟨num 1 (IntKind.wrap .u64 v)⟩:=fun v=>putW 1 (by decide) v;have z:∀v,Hf (IntKind.wrap .u64 v) 2=some ⟨num 2 (IntKind.wrap .u64 v)⟩:=fun v=>putW 2 (by decide) v;simp(disch:=omega) only[Zw,q,z,Es,DN,SL,SM];rfl)
def Au (c:AL) (u:Be):List Int:=[IntKind.wrap .u8 c.Kind]++((bif u.BI then updB c.BI else [])++((bif u.Map then num 5 c.Map else [])++((bif u.DF then num 2 (IntKind.wrap .u64 c.DF) else [])++((bif u.Bd then [IntKind.wrap .u8 c.Bd] else [])++((bif u.DT then [IntKind.wrap .u8 c.DT] else [])++
 ((bif u.Bq then num 8 c.Bq else [])++((bif u.Mark then num 8 c.Mark else [])++((bif u.CW then num 8 c.CW else [])++((bif u.Version then [IntKind.wrap .u8 c.Version] else [])++(bif u.Length then [IntKind.wrap .u8 c.Length] else []))))))))))
theorem Zpt (c:AL) (u:Be) (Q:ER c.Kind=some u) (S:Ox c=some 0) (hm:Eh c.Map) (Y:Eh c.Bq) (N:Eh c.Mark) (O:Eh c.CW):QU c=some (Au c u,0):=by
 have p5:Hf c.Map 5=_:=VE 5 (by decide) _ hm;have p2:Hf (IntKind.wrap .u64 c.DF) 2=_:=VE 2 (by decide) _ (wG _);have ps:Hf c.Bq 8=_:=VE 8 (by decide) _ Y;have pa:Hf c.Mark 8=_:=VE 8 (by decide) _ N;have pf:Hf c.CW 8=_:=VE 8 (by decide) _ O;have M:∀a:List Int,a.length<=90->AV HY (.b9 a c u)=some (a++(bif u.Length then [IntKind.wrap .u8 c.Length] else []),0):=fun a h=>(AZ _ _).trans (by
  cases q:u.Length<;>simp(disch:=omega) only[HY,q,List.append_nil,DN,SL,SM])
 have J:∀a:List Int,a.length<=85->AV HY (.b8 a c u)=some (a++((bif u.Version then [IntKind.wrap .u8 c.Version] else [])++(bif u.Length then [IntKind.wrap .u8 c.Length] else [])),0):=fun a h=>(AZ _ _).trans (by
  cases q:u.Version<;>simp(disch:=omega) only[HY,q,DN,SL,SM]<;>rw[M _ (by first|omega|(simp;omega))]<;>(try simp only[List.append_assoc,List.nil_append]))
 have I:∀a:List Int,a.length<=75->AV HY (.b7 a c u)=some (a++((bif u.CW then num 8 c.CW else [])++((bif u.Version then [IntKind.wrap .u8 c.Version] else [])++(bif u.Length then [IntKind.wrap .u8 c.Length] else []))),0):=fun a h=>(AZ _ _).trans (by
  cases q:u.CW<;>simp(disch:=omega) only[HY,q,pf,Es,DN,SL,SM]<;>rw[J _ (by first|omega|(simp[Es];omega))]<;>(try simp only[List.append_assoc,List.nil_append]))
 have G:∀a:List Int,a.length<=65->AV HY (.b6 a c u)=some (a++((bif u.Mark then num 8 c.Mark else [])++((bif u.CW then num 8 c.CW else [])++((bif u.Version then [IntKind.wrap .u8 c.Version] else [])++(bif u.Length then [IntKind.wrap .u8 c.Length] else [])))),0):=fun a h=>(AZ _ _).trans (by
  cases q:u.Mark<;>simp(disch:=omega) only[HY,q,pa,Es,DN,SL,SM]<;>rw[I _ (by first|omega|(simp[Es];omega))]<;>(try simp only[List.append_assoc,List.nil_append]))
 have F:∀a:List Int,a.length<=55->AV HY (.b5 a c u)=some (a++((bif u.Bq then num 8 c.Bq else [])++((bif u.Mark then num 8 c.Mark else [])++((bif u.CW then num 8 c.CW else [])++((bif u.Version then [IntKind.wrap .u8 c.Version] else [])++(bif u.Length then [IntKind.wrap .u8 c.Length] else []))))),0):=fun a h=>(AZ _ _).trans (by
  cases q:u.Bq<;>simp(disch:=omega) only[HY,q,ps,Es,DN,SL,SM]<;>rw[G _ (by first|omega|(simp[Es];omega))]<;>(try simp only[List.append_assoc,List.nil_append]))
 have D:∀a:List Int,a.length<=50->AV HY (.b4 a c u)=some (a++((bif u.DT then [IntKind.wrap .u8 c.DT] else [])++((bif u.Bq then num 8 c.Bq else [])++((bif u.Mark then num 8 c.Mark else [])++((bif u.CW then num 8 c.CW else [])++((bif u.Version then [IntKind.wrap .u8 c.Version] else [])++(bif u.Length then [IntKind.wrap .u8 c.Length] else [])))))),0):=fun a h=>(AZ _ _).trans (by
  cases q:u.DT<;>simp(disch:=omega) only[HY,q,DN,SL,SM]<;>rw[F _ (by first|omega|(simp;omega))]<;>(try simp only[List.append_assoc,List.nil_append]))
 have C:∀a:List Int,a.length<=45->AV HY (.b3 a c u)=some (a++((bif u.Bd then [IntKind.wrap .u8 c.Bd] else [])++((bif u.DT then [IntKind.wrap .u8 c.DT] else [])++((bif u.Bq then num 8 c.Bq else [])++((bif u.Mark then num 8 c.Mark else [])++((bif u.CW then num 8 c.CW else [])++((bif u.Version then [IntKind.wrap .u8 c.Version] else [])++(bif u.Length then [IntKind.wrap .u8 c.Length] else []))))))),0):=fun a h=>(AZ _ _).trans (by
  cases q:u.Bd<;>simp(disch:=omega) only[HY,q,DN,SL,SM]<;>rw[D _ (by first|omega|(simp;omega))]<;>(try simp only[List.append_assoc,List.nil_append]))
 have A:∀a:List Int,a.length<=40->AV HY (.b2 a c u)=some (a++((bif u.DF then num 2 (IntKind.wrap .u64 c.DF) else [])++((bif u.Bd then [IntKind.wrap .u8 c.Bd] else [])++((bif u.DT then [IntKind.wrap .u8 c.DT] else [])++((bif u.Bq then num 8 c.Bq else [])++((bif u.Mark then num 8 c.Mark else [])++((bif u.CW then num 8 c.CW else [])++((bif u.Version then [IntKind.wrap .u8 c.Version] else [])++(bif u.Length then [IntKind.wrap .u8 c.Length] else [])))))))),0):=fun a h=>(AZ _ _).trans (by
  cases q:u.DF<;>simp(disch:=omega) only[HY,q,p2,Es,DN,SL,SM]<;>rw[C _ (by first|omega|(simp[Es];omega))]<;>(try simp only[List.append_assoc,List.nil_append]))
 have z:∀a:List Int,a.length<=30->AV HY (.b1 a c u)=some (a++((bif u.Map then num 5 c.Map else [])++((bif u.DF then num 2 (IntKind.wrap .u64 c.DF) else [])++((bif u.Bd then [IntKind.wrap .u8 c.Bd] else [])++((bif u.DT then [IntKind.wrap .u8 c.DT] else [])++((bif u.Bq then num 8 c.Bq else [])++((bif u.Mark then num 8 c.Mark else [])++((bif u.CW then num 8 c.CW else [])++((bif u.Version then [IntKind.wrap .u8 c.Version] else [])++(bif u.Length then [IntKind.wrap .u8 c.Length] else []))))))))),0):=fun a h=>(AZ _ _).trans (by
  cases q:u.Map<;>simp(disch:=omega) only[HY,q,p5,Es,DN,SL,SM]<;>rw[A _ (by first|omega|(simp[Es];omega))]<;>(try simp only[List.append_assoc,List.nil_append]))
 refine(AZ _ _).trans ?_;unfold Au;have hb:((0:Int) != 0)=false:=rfl;cases q:u.BI<;>simp(disch:=omega) only[HY,S,Q,hb,q,Zt9,Z3k,DN,SL,SM]<;>rw[z _ (by simp[Z3k])]<;>(try simp only[List.append_assoc,List.nil_append])
theorem enc1 (vs q:List Int) (I:q.length=vs.length) (C:vs.length<=20):∀(d i:Nat) (fs:List Cc),i+d=vs.length->fs.length+d<=100->AV GZ (.b1 fs vs (vs.length:Nat) i ⟨q⟩)=(QS (fs++List.zipWith (fun s v=>(⟨s,v⟩:Cc)) (q.drop i) (vs.drop i))).bind fun x=>some (x.1,x.2):=by
 intro d;induction d with
 | zero=>
  intro i fs F D;obtain rfl:i=vs.length:=by omega
  refine(AZ _ _).trans ?_;simp(disch:=omega) only[GZ,Int.lt_irrefl,List.drop_length,List.zipWith_nil_right,List.append_nil,DN,SL,SM];rfl
 | succ d G=>
  intro i fs F D;have z:i<vs.length:=by omega
  have A:i<q.length:=by omega
  refine(AZ _ _).trans ?_;simp(disch:=omega) only[GZ,z,A,DN,SL,SM];rw[G (i+1) _ (by omega) (by simp;omega),List.drop_eq_getElem_cons z,List.drop_eq_getElem_cons A,List.zipWith_cons_cons,List.append_assoc];rfl
theorem enc0 (vs q:List Int) (fs:List Cc) (A:q.length=vs.length) (z:vs.length<=20) (C:fs.length<=50):AV GZ (.b1 fs vs (vs.length:Nat) 0 ⟨q⟩)=(QS (fs++List.zipWith (fun s v=>(⟨s,v⟩:Cc)) q vs)).bind fun x=>some (x.1,x.2):=enc1 vs q A z vs.length 0 fs (by omega) (by omega)
theorem n1 (r:Int):num 1 (IntKind.wrap .u64 r)=[IntKind.wrap .u8 r]:=by
 simp only[num,IntKind.wrap_u64,IntKind.wrap_u8];congr 1;omega
def fit (f:Cc):Prop:=1<=f.Size/\f.Size<=8/\0<=f.Value/\f.Value<256 ^ f.Size.toNat
theorem vZ (n:Int) (v:Int) (q:1<=n) (z:n<=8) (A:0<=v) (C:v<256 ^ n.toNat):fit ⟨n,v⟩:=⟨q,z,A,C⟩
theorem Og {v:Int} (h:R8 v):fit ⟨1,IntKind.wrap .u64 v⟩:=by obtain⟨q,z⟩:=h;rw[wu64 q (by omega)];exact vZ 1 v (by decide) (by decide) q z
theorem Oi {v:Int} (h:R16 v):fit ⟨2,IntKind.wrap .u64 v⟩:=by obtain⟨q,z⟩:=h;rw[wu64 q (by omega)];exact vZ 2 v (by decide) (by decide) q z
theorem iP {v:Int} (h:CB v):fit ⟨8,v⟩:=vZ 8 v (by decide) (by decide) h.1 h.2
theorem fit5 {v:Int} (h:0<=v) (q : v<137438953472):fit ⟨5,v⟩:=vZ 5 v (by decide) (by decide) h (Int.lt_of_lt_of_le q (by decide))
theorem DD (c:AL) (vs q:List Int) (D:R8 c.Kind) (F:q.length=vs.length) (A:vs.length<=6) (z:∀f∈List.zipWith (fun s v=>(⟨s,v⟩:Cc)) q vs,fit f) :
  AV GZ (.b1 [(⟨1,IntKind.wrap .u64 c.Kind⟩:Cc)] vs (vs.length:Nat) 0 ⟨q⟩)=some ([IntKind.wrap .u8 c.Kind]++(List.zipWith (fun s v=>(⟨s,v⟩:Cc)) q vs).flatMap Hw,0):=by
 have G:(List.zipWith (fun s v=>(⟨s,v⟩:Cc)) q vs).length<=6:=by rw[List.length_zipWith];omega
 have hb:∀l:List Cc,(∀f∈l,fit f)->(l.flatMap Hw).length<=8*l.length:=by
  intro l;induction l with
  | nil=>intro _;simp
  | cons x l I=>
   intro h;have:=I fun f z=>h f (List.mem_cons_of_mem _ z);have J:=(h x List.mem_cons_self).2.1;rw[List.flatMap_cons,List.length_append,List.length_cons,Hw,Es];omega
 rw[enc0 vs q _ F (by omega) (by simp),List.singleton_append];have C :=hb _ z;rw[Z4y _ (by
   intro f h;rcases List.mem_cons.1 h with rfl|h
   ·exact Og D
   ·exact z f h) (by rw[List.flatMap_cons,List.length_append,Hw,Es];simp only[show Int.toNat 1=1 from rfl];omega) (by rw[List.length_cons];omega)]
 rw[List.flatMap_cons,Option.bind_some,show Hw ⟨1,IntKind.wrap .u64 c.Kind⟩=_ from n1 c.Kind]
theorem ZCv (c:AL) (u:Be):1<=(Au c u).length/\(Au c u).length<=60/\Bytes (Au c u):=by
 have q:∀(b:Bool) (l:List Int) (n:Nat),l.length<=n->(bif b then l else []).length<=n:=fun b l n h=>by cases b<;>simp_all
 have hb:∀(b:Bool) (l:List Int),Bytes l->Bytes (bif b then l else []):=fun b l h=>by cases b<;>first|exact h|exact Bytes.nil
 have one:∀x,Bytes [IntKind.wrap .u8 x]:=fun x=>Bytes.cons (r8 _) Bytes.nil;have J:=q u.BI (updB c.BI) 9 (by rw[Z3k];omega);have hm:=q u.Map (num 5 c.Map) 5 (by rw[Es];omega);have A:=q u.DF (num 2 (IntKind.wrap .u64 c.DF)) 2 (by rw[Es];omega);have G:=q u.Bd [IntKind.wrap .u8 c.Bd] 1 (by simp);have C:=q u.DT [IntKind.wrap .u8 c.DT] 1 (by simp);have I:=q u.Bq (num 8 c.Bq) 8 (by rw[Es];omega);have D:=q u.Mark (num 8 c.Mark) 8 (by rw[Es];omega);have z:=q u.CW (num 8 c.CW) 8 (by rw[Es];omega);have M:=q u.Version [IntKind.wrap .u8 c.Version] 1 (by simp);have F:=q u.Length [IntKind.wrap .u8 c.Length] 1 (by simp);unfold Au;refine⟨by simp,?_,?_⟩
 ·simp only[List.length_append,List.length_cons,List.length_nil];omega
 ·exact Bytes.app (one _) (Bytes.app (hb _ _ (((((JU _ _).app (JU _ _)).app (JU _ _)).app (JU _ _)).app (JU _ _))) (Bytes.app (hb _ _ (JU _ _)) (Bytes.app (hb _ _ (JU _ _)) (Bytes.app (hb _ _ (one _)) (Bytes.app (hb _ _ (one _)) (Bytes.app (hb _ _ (JU _ _)) (Bytes.app (hb _ _ (JU _ _)) (Bytes.app (hb _ _ (JU _ _)) (Bytes.app (hb _ _ (one _)) (hb _ _ (one _)))))))))))
theorem ZEs (c:AL) (u:Be) (h:CV c) (A:ER c.Kind=some u) (hm:Eh c.Map) (D:Eh c.Bq) (q:Eh c.Mark) (z:Eh c.CW) (C:Gf c=some (Au c u,0)) :
  ∃x,Gf c=some (x,0)/\QU c=some (x,0)/\1<=x.length/\x.length<=60/\Bytes x:=
 ⟨_,C,Zpt c u A (Ztv h) hm D q z,ZCv c u⟩
theorem ZEx (u:DL) (i:Int) (q:I7 u=0) (z:R16 i):Gf ⟨0,u,0,i,0,0,0,0,0,0,0⟩=some (Au ⟨0,u,0,i,0,0,0,0,0,0,0⟩ ⟨true,true,false,true,false,false,false,false,false,false,false⟩,0):=by
 have hb:=uX q;have A:Gz=some ():=rfl;refine(AZ _ _).trans ?_;simp only[GZ,DN,A,Ih (CV.upd u i q z),Option.bind_some,KN,Int.reduceBEq,bne_self_eq_false,cond_true,cond_false];refine Eq.trans (DD ⟨0,u,0,i,0,0,0,0,0,0,0⟩ [IntKind.wrap .u64 u.ET,IntKind.wrap .u64 u.ES,IntKind.wrap .u64 u.Dl,IntKind.wrap .u64 u.Dx,IntKind.wrap .u64 u.Ea,IntKind.wrap .u64 i] [1,2,2,2,2,2] (show R8 0 from⟨by decide,by decide⟩) rfl (show 6<=6 by decide) ?_) ?_
 ·simp only[List.zipWith_cons_cons,List.zipWith_nil_left,List.forall_mem_cons,List.not_mem_nil,false_implies,implies_true,and_true];exact⟨Og ⟨by omega,by omega⟩,Oi ⟨by omega,by omega⟩,Oi ⟨by omega,by omega⟩,Oi ⟨by omega,by omega⟩,Oi ⟨by omega,by omega⟩,Oi z⟩
 ·simp only[Au,updB,n1];simp only[List.zipWith_cons_cons,List.zipWith_nil_left,List.flatMap_cons,List.flatMap_nil,Hw,show Int.toNat 1=1 from rfl,n1];rfl
theorem ZDR (m i:Int) (q:CB m) (z:Ik m=0) (A:R16 i):Gf ⟨1,BR,m,i,0,0,0,0,0,0,0⟩=some (Au ⟨1,BR,m,i,0,0,0,0,0,0,0⟩ ⟨true,false,true,true,false,false,false,false,false,false,false⟩,0):=by
 have C:Gz=some ():=rfl;refine(AZ _ _).trans ?_;simp only[GZ,DN,C,Ih (CV.map m i q z A),Option.bind_some,KL,Int.reduceBEq,bne_self_eq_false,cond_true,cond_false];refine Eq.trans (DD ⟨1,BR,m,i,0,0,0,0,0,0,0⟩ [m,IntKind.wrap .u64 i] [5,2] (show R8 1 from⟨by decide,by decide⟩) rfl (show 2<=6 by decide) ?_) ?_
 ·simp only[List.zipWith_cons_cons,List.zipWith_nil_left,List.forall_mem_cons,List.not_mem_nil,false_implies,implies_true,and_true];exact⟨fit5 q.1 (ZEQ z),Oi A⟩
 ·simp only[Au,updB,n1];rfl
theorem ZCA (r:Int) (q:R8 r):Gf ⟨2,BR,0,0,r,0,0,0,0,0,0⟩=some (Au ⟨2,BR,0,0,r,0,0,0,0,0,0⟩ ⟨true,false,false,false,true,false,false,false,false,false,false⟩,0):=by
 have z:Gz=some ():=rfl;refine(AZ _ _).trans ?_;simp only[GZ,DN,z,Ih (CV.term r q),Option.bind_some,KI,Int.reduceBEq,bne_self_eq_false,cond_true,cond_false];refine Eq.trans (DD ⟨2,BR,0,0,r,0,0,0,0,0,0⟩ [IntKind.wrap .u64 r] [1] (show R8 2 from⟨by decide,by decide⟩) rfl (show 1<=6 by decide) ?_) ?_
 ·simp only[List.zipWith_cons_cons,List.zipWith_nil_left,List.forall_mem_cons,List.not_mem_nil,false_implies,implies_true,and_true];exact Og q
 ·simp only[Au,updB,n1];simp only[List.zipWith_cons_cons,List.zipWith_nil_left,List.flatMap_cons,List.flatMap_nil,Hw,show Int.toNat 1=1 from rfl,n1];rfl
theorem ZFk (s m:Int) (q:CB s) (z:CB m):Gf ⟨3,BR,0,0,0,0,s,m,0,0,0⟩=some (Au ⟨3,BR,0,0,0,0,s,m,0,0,0⟩ ⟨true,false,false,false,false,false,true,true,false,false,false⟩,0):=by
 have A:Gz=some ():=rfl;refine(AZ _ _).trans ?_;simp only[GZ,DN,A,Ih (CV.enc s m q z),Option.bind_some,KC,Int.reduceBEq,bne_self_eq_false,cond_true,cond_false];refine Eq.trans (DD ⟨3,BR,0,0,0,0,s,m,0,0,0⟩ [s,m] [8,8] (show R8 3 from⟨by decide,by decide⟩) rfl (show 2<=6 by decide) ?_) ?_
 ·simp only[List.zipWith_cons_cons,List.zipWith_nil_left,List.forall_mem_cons,List.not_mem_nil,false_implies,implies_true,and_true];exact⟨iP q,iP z⟩
 ·simp only[Au,updB,n1];rfl
theorem ZED (s:Int) (q:CB s):Gf ⟨4,BR,0,0,0,0,s,0,0,0,0⟩=some (Au ⟨4,BR,0,0,0,0,s,0,0,0,0⟩ ⟨true,false,false,false,false,false,true,false,false,false,false⟩,0):=by
 have z:Gz=some ():=rfl;refine(AZ _ _).trans ?_;simp only[GZ,DN,z,Ih (CV.ans s q),Option.bind_some,KH,Int.reduceBEq,bne_self_eq_false,cond_true,cond_false];refine Eq.trans (DD ⟨4,BR,0,0,0,0,s,0,0,0,0⟩ [s] [8] (show R8 4 from⟨by decide,by decide⟩) rfl (show 1<=6 by decide) ?_) ?_
 ·simp only[List.zipWith_cons_cons,List.zipWith_nil_left,List.forall_mem_cons,List.not_mem_nil,false_implies,implies_true,and_true];exact iP q
 ·simp only[Au,updB,n1];rfl
theorem Zxz  : Gf ⟨5,BR,0,0,0,0,0,0,0,0,0⟩=some (Au ⟨5,BR,0,0,0,0,0,0,0,0,0⟩ ⟨true,false,false,false,false,false,false,false,false,false,false⟩,0):=by
 have q:Gz=some ():=rfl;refine(AZ _ _).trans ?_;simp only[GZ,DN,q,Ih (CV.plain 5 (by decide)),Option.bind_some,JB,Int.reduceBEq,bne_self_eq_false,cond_true,cond_false];refine Eq.trans (DD ⟨5,BR,0,0,0,0,0,0,0,0,0⟩ [] [] (show R8 5 from⟨by decide,by decide⟩) rfl (show 0<=6 by decide) ?_) ?_
 ·exact fun f h=>nomatch h
 ·simp only[Au,updB,n1];rfl
theorem ZyY  : Gf ⟨6,BR,0,0,0,0,0,0,0,0,0⟩=some (Au ⟨6,BR,0,0,0,0,0,0,0,0,0⟩ ⟨true,false,false,false,false,false,false,false,false,false,false⟩,0):=by
 have q:Gz=some ():=rfl;refine(AZ _ _).trans ?_;simp only[GZ,DN,q,Ih (CV.plain 6 (by decide)),Option.bind_some,JB,Int.reduceBEq,bne_self_eq_false,cond_true,cond_false];refine Eq.trans (DD ⟨6,BR,0,0,0,0,0,0,0,0,0⟩ [] [] (show R8 6 from⟨by decide,by decide⟩) rfl (show 0<=6 by decide) ?_) ?_
 ·exact fun f h=>nomatch h
 ·simp only[Au,updB,n1];rfl
theorem ZuD  : Gf ⟨18,BR,0,0,0,0,0,0,0,0,0⟩=some (Au ⟨18,BR,0,0,0,0,0,0,0,0,0⟩ ⟨true,false,false,false,false,false,false,false,false,false,false⟩,0):=by
 have q:Gz=some ():=rfl;refine(AZ _ _).trans ?_;simp only[GZ,DN,q,Ih (CV.plain 18 (by decide)),Option.bind_some,JB,Int.reduceBEq,bne_self_eq_false,cond_true,cond_false];refine Eq.trans (DD ⟨18,BR,0,0,0,0,0,0,0,0,0⟩ [] [] (show R8 18 from⟨by decide,by decide⟩) rfl (show 0<=6 by decide) ?_) ?_
 ·exact fun f h=>nomatch h
 ·simp only[Au,updB,n1];rfl
theorem ZwG  : Gf ⟨19,BR,0,0,0,0,0,0,0,0,0⟩=some (Au ⟨19,BR,0,0,0,0,0,0,0,0,0⟩ ⟨true,false,false,false,false,false,false,false,false,false,false⟩,0):=by
 have q:Gz=some ():=rfl;refine(AZ _ _).trans ?_;simp only[GZ,DN,q,Ih (CV.plain 19 (by decide)),Option.bind_some,JB,Int.reduceBEq,bne_self_eq_false,cond_true,cond_false];refine Eq.trans (DD ⟨19,BR,0,0,0,0,0,0,0,0,0⟩ [] [] (show R8 19 from⟨by decide,by decide⟩) rfl (show 0<=6 by decide) ?_) ?_
 ·exact fun f h=>nomatch h
 ·simp only[Au,updB,n1];rfl
theorem ZEV (r:Int) (q:R8 r):Gf ⟨7,BR,0,0,0,r,0,0,0,0,0⟩=some (Au ⟨7,BR,0,0,0,r,0,0,0,0,0⟩ ⟨true,false,false,false,false,true,false,false,false,false,false⟩,0):=by
 have z:Gz=some ():=rfl;refine(AZ _ _).trans ?_;simp only[GZ,DN,z,Ih (CV.WG r q),Option.bind_some,KF,Int.reduceBEq,bne_self_eq_false,cond_true,cond_false];refine Eq.trans (DD ⟨7,BR,0,0,0,r,0,0,0,0,0⟩ [IntKind.wrap .u64 r] [1] (show R8 7 from⟨by decide,by decide⟩) rfl (show 1<=6 by decide) ?_) ?_
 ·simp only[List.zipWith_cons_cons,List.zipWith_nil_left,List.forall_mem_cons,List.not_mem_nil,false_implies,implies_true,and_true];exact Og q
 ·simp only[Au,updB,n1];simp only[List.zipWith_cons_cons,List.zipWith_nil_left,List.flatMap_cons,List.flatMap_nil,Hw,show Int.toNat 1=1 from rfl,n1];rfl
theorem ZB3 (f:Int) (q:CB f):Gf ⟨8,BR,0,0,0,0,0,0,f,0,0⟩=some (Au ⟨8,BR,0,0,0,0,0,0,f,0,0⟩ ⟨true,false,false,false,false,false,false,false,true,false,false⟩,0):=by
 have z:Gz=some ():=rfl;refine(AZ _ _).trans ?_;simp only[GZ,DN,z,Ih (CV.iT 8 f (by decide) q),Option.bind_some,Jh,Int.reduceBEq,bne_self_eq_false,cond_true,cond_false];refine Eq.trans (DD ⟨8,BR,0,0,0,0,0,0,f,0,0⟩ [f] [8] (show R8 8 from⟨by decide,by decide⟩) rfl (show 1<=6 by decide) ?_) ?_
 ·simp only[List.zipWith_cons_cons,List.zipWith_nil_left,List.forall_mem_cons,List.not_mem_nil,false_implies,implies_true,and_true];exact iP q
 ·simp only[Au,updB,n1];rfl
theorem ZAT (f:Int) (q:CB f):Gf ⟨9,BR,0,0,0,0,0,0,f,0,0⟩=some (Au ⟨9,BR,0,0,0,0,0,0,f,0,0⟩ ⟨true,false,false,false,false,false,false,false,true,false,false⟩,0):=by
 have z:Gz=some ():=rfl;refine(AZ _ _).trans ?_;simp only[GZ,DN,z,Ih (CV.iT 9 f (by decide) q),Option.bind_some,Jh,Int.reduceBEq,bne_self_eq_false,cond_true,cond_false];refine Eq.trans (DD ⟨9,BR,0,0,0,0,0,0,f,0,0⟩ [f] [8] (show R8 9 from⟨by decide,by decide⟩) rfl (show 1<=6 by decide) ?_) ?_
 ·simp only[List.zipWith_cons_cons,List.zipWith_nil_left,List.forall_mem_cons,List.not_mem_nil,false_implies,implies_true,and_true];exact iP q
 ·simp only[Au,updB,n1];rfl
theorem ZEF (v:Int) (q:R8 v):Gf ⟨12,BR,0,0,0,0,0,0,0,v,0⟩=some (Au ⟨12,BR,0,0,0,0,0,0,0,v,0⟩ ⟨true,false,false,false,false,false,false,false,false,true,false⟩,0):=by
 have z:Gz=some ():=rfl;refine(AZ _ _).trans ?_;simp only[GZ,DN,z,Ih (CV.jB v q),Option.bind_some,KG,Int.reduceBEq,bne_self_eq_false,cond_true,cond_false];refine Eq.trans (DD ⟨12,BR,0,0,0,0,0,0,0,v,0⟩ [IntKind.wrap .u64 v] [1] (show R8 12 from⟨by decide,by decide⟩) rfl (show 1<=6 by decide) ?_) ?_
 ·simp only[List.zipWith_cons_cons,List.zipWith_nil_left,List.forall_mem_cons,List.not_mem_nil,false_implies,implies_true,and_true];exact Og q
 ·simp only[Au,updB,n1];simp only[List.zipWith_cons_cons,List.zipWith_nil_left,List.flatMap_cons,List.flatMap_nil,Hw,show Int.toNat 1=1 from rfl,n1];rfl
theorem ZFa (r k:Int) (q:R8 r) (z:R8 k):Gf ⟨13,BR,0,0,r,k,0,0,0,0,0⟩=some (Au ⟨13,BR,0,0,r,k,0,0,0,0,0⟩ ⟨true,false,false,false,true,true,false,false,false,false,false⟩,0):=by
 have A:Gz=some ():=rfl;refine(AZ _ _).trans ?_;simp only[GZ,DN,A,Ih (CV.Vy r k q z),Option.bind_some,KD,Int.reduceBEq,bne_self_eq_false,cond_true,cond_false];refine Eq.trans (DD ⟨13,BR,0,0,r,k,0,0,0,0,0⟩ [IntKind.wrap .u64 r,IntKind.wrap .u64 k] [1,1] (show R8 13 from⟨by decide,by decide⟩) rfl (show 2<=6 by decide) ?_) ?_
 ·simp only[List.zipWith_cons_cons,List.zipWith_nil_left,List.forall_mem_cons,List.not_mem_nil,false_implies,implies_true,and_true];exact⟨Og q,Og z⟩
 ·simp only[Au,updB,n1];simp only[List.zipWith_cons_cons,List.zipWith_nil_left,List.flatMap_cons,List.flatMap_nil,Hw,show Int.toNat 1=1 from rfl,n1];rfl
theorem ZDO (u:DL) (q:I7 u=0):Gf ⟨15,u,0,0,0,0,0,0,0,0,0⟩=some (Au ⟨15,u,0,0,0,0,0,0,0,0,0⟩ ⟨true,true,false,false,false,false,false,false,false,false,false⟩,0):=by
 have hb:=uX q;have z:Gz=some ():=rfl;refine(AZ _ _).trans ?_;simp only[GZ,DN,z,Ih (CV.par u q),Option.bind_some,KQ,Int.reduceBEq,bne_self_eq_false,cond_true,cond_false];refine Eq.trans (DD ⟨15,u,0,0,0,0,0,0,0,0,0⟩ [IntKind.wrap .u64 u.ET,IntKind.wrap .u64 u.ES,IntKind.wrap .u64 u.Dl,IntKind.wrap .u64 u.Dx,IntKind.wrap .u64 u.Ea] [1,2,2,2,2] (show R8 15 from⟨by decide,by decide⟩) rfl (show 5<=6 by decide) ?_) ?_
 ·simp only[List.zipWith_cons_cons,List.zipWith_nil_left,List.forall_mem_cons,List.not_mem_nil,false_implies,implies_true,and_true];exact⟨Og ⟨by omega,by omega⟩,Oi ⟨by omega,by omega⟩,Oi ⟨by omega,by omega⟩,Oi ⟨by omega,by omega⟩,Oi ⟨by omega,by omega⟩⟩
 ·simp only[Au,updB,n1];simp only[List.zipWith_cons_cons,List.zipWith_nil_left,List.flatMap_cons,List.flatMap_nil,Hw,show Int.toNat 1=1 from rfl,n1];rfl
theorem ZB2 (n:Int) (q:27<=n) (z:n<=251):Gf ⟨20,BR,0,0,0,0,0,0,0,0,n⟩=some (Au ⟨20,BR,0,0,0,0,0,0,0,0,n⟩ ⟨true,false,false,false,false,false,false,false,false,false,true⟩,0):=by
 have A:Gz=some ():=rfl;refine(AZ _ _).trans ?_;simp only[GZ,DN,A,Ih (CV.len 20 n (by decide) q z),Option.bind_some,Ji,Int.reduceBEq,bne_self_eq_false,cond_true,cond_false];refine Eq.trans (DD ⟨20,BR,0,0,0,0,0,0,0,0,n⟩ [IntKind.wrap .u64 n] [1] (show R8 20 from⟨by decide,by decide⟩) rfl (show 1<=6 by decide) ?_) ?_
 ·simp only[List.zipWith_cons_cons,List.zipWith_nil_left,List.forall_mem_cons,List.not_mem_nil,false_implies,implies_true,and_true];exact Og ⟨by omega,by omega⟩
 ·simp only[Au,updB,n1];simp only[List.zipWith_cons_cons,List.zipWith_nil_left,List.flatMap_cons,List.flatMap_nil,Hw,show Int.toNat 1=1 from rfl,n1];rfl
theorem ZzT (n:Int) (q:27<=n) (z:n<=251):Gf ⟨21,BR,0,0,0,0,0,0,0,0,n⟩=some (Au ⟨21,BR,0,0,0,0,0,0,0,0,n⟩ ⟨true,false,false,false,false,false,false,false,false,false,true⟩,0):=by
 have A:Gz=some ():=rfl;refine(AZ _ _).trans ?_;simp only[GZ,DN,A,Ih (CV.len 21 n (by decide) q z),Option.bind_some,Ji,Int.reduceBEq,bne_self_eq_false,cond_true,cond_false];refine Eq.trans (DD ⟨21,BR,0,0,0,0,0,0,0,0,n⟩ [IntKind.wrap .u64 n] [1] (show R8 21 from⟨by decide,by decide⟩) rfl (show 1<=6 by decide) ?_) ?_
 ·simp only[List.zipWith_cons_cons,List.zipWith_nil_left,List.forall_mem_cons,List.not_mem_nil,false_implies,implies_true,and_true];exact Og ⟨by omega,by omega⟩
 ·simp only[Au,updB,n1];simp only[List.zipWith_cons_cons,List.zipWith_nil_left,List.flatMap_cons,List.flatMap_nil,Hw,show Int.toNat 1=1 from rfl,n1];rfl
theorem ZBw {c:AL} (h:CV c):∃x,Gf c=some (x,0)/\QU c=some (x,0)/\1<=x.length/\x.length<=60/\Bytes x:=by
 have z:Eh 0:=⟨by decide,by decide⟩;rcases Z3I c.Kind with ⟨A,q⟩|⟨A,q⟩|⟨A,q⟩|⟨A,q⟩|⟨A,q⟩|⟨A,q⟩|⟨A,q⟩|⟨A,q⟩|⟨A,q⟩|⟨A,q⟩|⟨A,q⟩|⟨A,q⟩|⟨A,q⟩
 all_goals
  have C :=h;cases h<;>first|(exfalso;dsimp only at q;omega)|skip
  all_goals
   refine ZEs _ _ C A (by assumption) (by assumption) (by assumption) (by assumption) ?_
   first
    | exact ZEx _ _ (by assumption) (by assumption)
    | exact ZDR _ _ (by assumption) (by assumption) (by assumption)
    | exact ZCA _ (by assumption)
    | exact ZFk _ _ (by assumption) (by assumption)
    | exact ZED _ (by assumption)
    | (rcases q with rfl|rfl|rfl|rfl<;>first|exact Zxz  | exact ZyY  | exact ZuD  | exact ZwG )
    | exact ZEV _ (by assumption)
    | (rcases q with rfl|rfl<;>first|exact ZB3 _ (by assumption)|exact ZAT _ (by assumption))
    | exact ZEF _ (by assumption)
    | exact ZFa _ _ (by assumption) (by assumption)
    | exact ZDO _ (by assumption)
    | (rcases q with rfl|rfl<;>first|exact ZB2 _ (by assumption) (by assumption)|exact ZzT _ (by assumption) (by assumption))
theorem Zaj:nU=some ⟨1,[]⟩:=(AZ _ _).trans rfl
theorem ZdY (xs:List Int) (h:xs.length<=100000):NF xs=some ⟨xs⟩:=by
 have:=Sr;have:=SG;unfold NF;rw[if_pos ⟨by omega,by omega⟩]
theorem Z3j (x:Aw) (h:x.Payload.length<=100000):Yg x=some x:=(AZ _ _).trans (by
 simp only[Za8,DN,ZdY _ h,Option.bind_some,beq_self_eq_true,cond_true])
def Ie (q:List Aw):Prop:=q.length<=1000/\∀x∈q,x.Payload.length<=100000
theorem ZEr (q:List Aw) (C:Ie q) (a z:BQ):∀d i:Nat,i+d=q.length->AV bU (.b1 (q.take i) q (q.length:Int) (i:Int) a z)=some ⟨{ a with BA:=q }⟩:=by
 intro d;induction d with
 | zero=>
  intro i D;have e:i=q.length:=by omega
  subst e;refine(AZ _ _).trans ?_;simp only[bU,Int.lt_irrefl,DN,SL,SM];rw[List.take_length]
 | succ d I=>
  intro i D;refine(AZ _ _).trans ?_;have A:i<q.length:=by omega
  have F:(q.take i).length=i:=by rw[List.length_take];omega
  have G:=C.2 q[i] (List.getElem_mem A);have:=C.1;simp(disch:=omega) only[bU,A,Z3j _ G,F,DN,SL,SM];have:=I (i+1) (by omega);rw[List.take_succ_eq_append_getElem A]at this;exact this
theorem Zfk (a:BQ) (q:Ie a.BA):qK a=some ⟨a⟩:=(AZ _ _).trans (by
 have z:decide ((0:Int)<=(0:Int)/\(0:Int)<=((a.BA.length:Nat):Int)/\a.BA.length*32<=lim/\((a.BA.length:Nat):Int)<=((maxLen:Nat):Int))=true:=by
  have:=Sr;have:=SG;have:=q.1;exact decide_eq_true ⟨by omega,by omega,by omega,by omega⟩
 simp only[bU,DN,Int.toNat_natCast,z,cond_true,beq_self_eq_true,List.length_nil,Bool.and_self];exact ZEr a.BA q a _ a.BA.length 0 (by omega))
theorem Zcz (a:BQ) (q:Ie a.BA):SA a=aP a:=by
 have G:∀x y z w,AV Ny (.b4 x y z w)=AV IJ (.b4 x y z w):=fun x y z w=>(AZ _ _).trans (Eq.trans (by
  simp only[Ny,IJ,DN,beq_self_eq_true,cond_true]) (AZ _ _).symm)
 have D:∀n x y z w,AV Ny (.b3 n x y z w)=AV IJ (.b3 n x y z w):=fun n x y z w=>(AZ _ _).trans (Eq.trans (by
  simp only[Ny,IJ,DN,beq_self_eq_true,cond_true,G]) (AZ _ _).symm)
 have F:∀n (x:BQ) y z w,Ie x.BA->AV Ny (.b2 n x y z w)=AV IJ (.b2 n x y z w):=fun n x y z w A=>(AZ _ _).trans (Eq.trans (by
  simp only[Ny,IJ,DN,beq_self_eq_true,cond_true,D];cases I:x.BA[(Int.toNat 0)]? with
  | none=>rfl
  | some p=>simp only[Option.bind_some,Z3j p (A.2 p (List.mem_of_getElem? I))]) (AZ _ _).symm)
 have C:∀(x:BQ) y z,Ie x.BA->AV Ny (.b1 x y z)=AV IJ (.b1 x y z):=fun x y z A=>(AZ _ _).trans (Eq.trans (by
  simp only[Ny,IJ,DN,beq_self_eq_true,cond_true,D,F _ x _ _ _ A,Zaj,Option.bind_some]) (AZ _ _).symm)
 refine(AZ _ _).trans (Eq.trans ?_ (AZ _ _).symm);simp only[Ny,IJ,DN,Zfk a q,Option.bind_some,beq_self_eq_true,cond_true,C a _ _ q];rw[C { a with Open:=true,Empty:=(((a.BA.length:Nat):Int)==0) } _ _ q]
noncomputable def RD (k s:Int):Nat->List Int
 | 0=>[]
 | i+1=>RD k s i++num 8 (Mc k (IntKind.wrap .u64 (s+i)))
theorem eU (k s:Int) (i:Nat):(RD k s i).length=8*i:=by
 induction i with
 | zero=>rfl
 | succ i q=>rw[RD,List.length_append,q,Es];omega
noncomputable def OT (k q:Int) (n:Nat):List Int:=(RD k (Mc k q) ((n+7) / 8)).take n
theorem Z1o (k q:Int) (n:Nat):(OT k q n).length=n:=by
 rw[OT,List.length_take,eU];omega
theorem Z30 (x:Int) (h:Eh x):U8 [x]=some (num 8 x):=by
 rw[ZCV [x] (fun y q=>by rw[List.mem_singleton.1 q];exact h) (by simp)];simp
theorem ZnD (k s:Int) (n:Nat) (F:n<=100000):∀d i:Nat,i+d=(n+7) / 8->AV Xw (.b1 k n s (RD k s i) i)=some ((RD k s ((n+7) / 8)).take n):=by
 intro d;induction d with
 | zero=>
  intro i C;obtain rfl:i=(n+7) / 8:=by omega
  have q:=eU k s ((n+7) / 8);refine(AZ _ _).trans ?_;have A:decide ((n:Int)<=((8*((n+7) / 8):Nat):Int))=true:=decide_eq_true (by omega);simp(disch:=omega) only[Xw,q,A,List.drop_zero,Nat.sub_zero,DN,SL,SM]
 | succ d D=>
  intro i C;have q:=eU k s i;refine(AZ _ _).trans ?_;have z:8*i<n:=by omega
  simp(disch:=omega) only[Xw,q,z,V4,Z30 _ (rY _ _),Es,DN,SL,SM];rw[wu64 (n:=(i:Int)+1) (by omega) (by omega)];exact D (i+1) (by omega)
theorem ZpX (k q:Int) (n:Nat) (z:n<=100000):Z0k k q n=some (OT k q n):=(AZ _ _).trans (by
 have e:AP ((n:Int)+8)=((n+8:Nat):Int):=by rw[Fq (by omega) (by omega)];simp
 have h:decide ((0:Int)<=0/\(0:Int)<=((n+8:Nat):Int)/\Int.toNat ((n+8:Nat):Int)*1<=lim/\((n+8:Nat):Int)<=(↑maxLen:Int))=true:=
  decide_eq_true ⟨by decide,by omega,by rw[Int.toNat_natCast];exact Nat.le_trans (by omega) Sr,by exact_mod_cast Nat.le_trans (show n+8<=1000000000 by omega) SG⟩
 simp only[Xw,DN,V4,Option.bind_some,e];rw[h];exact ZnD k _ n z ((n+7) / 8) 0 (by omega))
theorem ZnW (k:Int) (I:Eh k) (s:Int) (n:Nat) (M:n<=100000):∀d i:Nat,i+d=(n+7) / 8->AV UX (.b1 k n (RD k s i) s i)=some ((RD k s ((n+7) / 8)).take n):=by
 intro d;induction d with
 | zero=>
  intro i G;obtain rfl:i=(n+7) / 8:=by omega
  have q:=eU k s ((n+7) / 8);refine(AZ _ _).trans ?_;have A:decide ((n:Int)<=((8*((n+7) / 8):Nat):Int))=true:=decide_eq_true (by omega);have C:decide (0+n<=8*((n+7) / 8))=true:=decide_eq_true (by omega);have D:decide (n<=8*((n+7) / 8))=true:=decide_eq_true (by omega);simp(disch:=omega) only[UX,q,A,C,D,List.drop_zero,Nat.sub_zero,DN,SL,SM]
 | succ d J=>
  intro i G;have q:=eU k s i;refine(AZ _ _).trans ?_;have z:8*i<n:=by omega
  have hm:=rY k (IntKind.wrap .u64 (s+i));have F:Lr 8 (Mc k (IntKind.wrap .u64 (s+i)))=some ⟨num 8 (Mc k (IntKind.wrap .u64 (s+i)))⟩:=uV 8 (by decide) _ hm;simp(disch:=omega) only[UX,q,z,wu64 (n:=(i:Int)) (by omega) (by omega),qH k _ I (wG _),F,Es,DN,SL,SM];exact J (i+1) (by omega)
theorem Zqn (k:Int) (z:Eh k) (q:Int) (C:Eh q) (n:Nat) (A:n<=100000):Xd k q n=some (OT k q n):=(AZ _ _).trans (by
 simp only[UX,qH k _ z C,DN,SL,SM];exact ZnW k z _ n A ((n+7) / 8) 0 (by omega))
def Dz (a b:List Int):List Int:=List.zipWith (bits .xor .u8) a b
theorem VG (a b:List Int):(Dz a b).length=min a.length b.length:=List.length_zipWith
theorem Z1P (a b:List Int):Bytes (Dz a b):=fun x q=>by
 obtain⟨i,z,rfl⟩:=List.getElem_of_mem q;simp only[Dz,List.getElem_zipWith];exact b8 _ _ _
theorem ZDu (ys:List Int) (i:Nat) (h:i<ys.length):(ys.take i++List.replicate (ys.length - i) (0:Int)).set i ys[i]=ys.take (i+1)++List.replicate (ys.length - (i+1)) 0:=by
 rw[show ys.length - i=(ys.length - (i+1))+1 by omega,List.replicate_succ,List.set_append_right _ _ (by rw[List.length_take];omega),List.length_take,Nat.min_eq_left (by omega),Nat.sub_self,List.set_cons_zero,List.take_add_one,List.getElem?_eq_getElem h,List.append_assoc];rfl
theorem Znz (a b:List Int) (J:a.length<=100000):∀d i:Nat,i+d=(Dz a b).length->AV X6 (.b1 a b ((Dz a b).take i++List.replicate ((Dz a b).length - i) 0) (Dz a b).length i)=some (Dz a b):=by
 have M:=VG a b;intro d;induction d with
 | zero=>
  intro i C;obtain rfl:i=(Dz a b).length:=by omega
  refine(AZ _ _).trans ?_;simp only[X6,Int.lt_irrefl,Nat.sub_self,List.replicate_zero,List.append_nil,List.take_length,DN,SL,SM]
 | succ d G=>
  intro i C;have q:i<(Dz a b).length:=by omega
  have z:i<a.length:=by omega
  have A:i<b.length:=by omega
  have F:=ZDu (Dz a b) i q;have hb:bits .xor .u8 a[i] b[i]=(Dz a b)[i]:=by simp only[Dz,List.getElem_zipWith]
  have D:((Dz a b).take i++List.replicate ((Dz a b).length - i) (0:Int)).length=(Dz a b).length:=by
   rw[List.length_append,List.length_take,List.length_replicate];omega
  rw[<- G (i+1) (by omega)];refine(AZ _ _).trans ?_;generalize I:(Dz a b).take i++List.replicate ((Dz a b).length - i) (0:Int)=O at *;simp(disch:=omega) only[X6,DN,Int.natCast_nonneg,Int.ofNat_lt,q,z,A,Int.toNat_natCast,List.getElem?_eq_getElem,Option.bind_some,decide_true,cond_true,true_and,D,beq_self_eq_true,Bool.true_and,Nat.zero_le,List.length_set,Qa,hb,F]
theorem Zqq (a b:List Int) (q:a.length<=100000):Z0G a b=some (Dz a b):=(AZ _ _).trans (by
 have z:=VG a b;have e:(if (↑b.length:Int)<(↑a.length:Int) then (↑b.length:Int) else (↑a.length:Int))=((Dz a b).length:Int):=by rw[z];split<;>omega
 have h:decide (0<=((Dz a b).length:Int)/\((Dz a b).length:Int)<=((Dz a b).length:Int)/\(Dz a b).length*1<=lim/\((Dz a b).length:Int)<=(↑maxLen:Int))=true:=
  decide_eq_true ⟨by omega,by omega,Nat.le_trans (by omega) Sr,by exact_mod_cast Nat.le_trans (show (Dz a b).length<=1000000000 by omega) SG⟩
 simp only[X6,DN,e,Int.toNat_natCast,h,cond_true,beq_self_eq_true,List.length_replicate];exact Znz a b q _ 0 (Nat.zero_add _))
theorem Zuj (a b:List Int) (I:a.length<=100000):∀d i:Nat,i+d=(Dz a b).length->AV SH (.b1 a b ((Dz a b).take i) i)=some ⟨Dz a b⟩:=by
 have J:=VG a b;intro d;induction d with
 | zero=>
  intro i C;obtain rfl:i=(Dz a b).length:=by omega
  refine(AZ _ _).trans ?_;simp only[SH,DN,SL,SM]
  by_cases q:(Dz a b).length<a.length
  ·have z:¬(Dz a b).length<b.length:=by omega
   simp only[q,z,decide_true,decide_false,cond_true,cond_false,List.take_length]
  ·simp only[q,decide_false,cond_false,List.take_length]
 | succ d G=>
  intro i C;have A:i<(Dz a b).length:=by omega
  have q:i<a.length:=by omega
  have z:i<b.length:=by omega
  have hb:bits .xor .u8 a[i] b[i]=(Dz a b)[i]:=by simp only[Dz,List.getElem_zipWith]
  have D:((Dz a b).take i).length=i:=by rw[List.length_take];omega
  have F:(Dz a b).take i++[(Dz a b)[i]]=(Dz a b).take (i+1):=by rw[List.take_add_one,List.getElem?_eq_getElem A];rfl
  refine(AZ _ _).trans ?_;simp(disch:=omega) only[SH,q,z,DN,SL,SM];refine(AZ _ _).trans ?_;simp(disch:=omega) only[SH,q,z,D,hb,F,DN,SL,SM];exact G (i+1) (by omega)
theorem ZxB (a b:List Int) (q:a.length<=100000):dK a b=some ⟨Dz a b⟩:=(AZ _ _).trans (by
 simp only[SH,DN,SL,SM];exact Zuj a b q _ 0 (Nat.zero_add _))
noncomputable def V6 (k q:Int) (z c:List Int):List Int:=num 4 (TM k (num 8 q++num 4 z.length++z++c))
noncomputable def Kv (k q:Int) (z p:List Int):List Int:=Dz p (OT k q p.length)++V6 k q z (Dz p (OT k q p.length))
theorem Z2C (k q:Int) (z c:List Int):(V6 k q z c).length=4:=Es _ _
theorem Zyo (k q:Int) (z p:List Int):(Kv k q z p).length=p.length+4:=by
 rw[Kv,List.length_append,VG,Z1o,Z2C,Nat.min_self]
theorem Zro (k q:Int) (z p:List Int):Bytes (Kv k q z p):=(Z1P _ _).app (JU _ _)
theorem Zuk (k q:Int) (D:Eh q) (z c:List Int) (C:Bytes z) (hc:Bytes c) (F:z.length<=1000) (hm:c.length<=50000):Z1L k q z c=some (V6 k q z c):=(AZ _ _).trans (by
 simp only[Zch,J9 (n:=(z.length:Int)) (by omega) (by omega),wu64 (n:=(z.length:Int)) (by omega) (by omega),Z30 q D,DN,SL,SM];rw[Z4y [⟨4,z.length⟩] (fun f A=>by
  rw[List.mem_singleton.1 A];exact⟨show (1:Int)<=4 by decide,show (4:Int)<=8 by decide,show (0:Int)<=z.length by omega,show (z.length:Int)<4294967296 by omega⟩) (by simp[Hw,Es]) (by simp)]
 simp only[Option.bind_some,List.flatMap_cons,List.flatMap_nil,List.append_nil,Hw,show Int.toNat 4=4 from rfl];rw[gK _ (by simp[Es];omega) (by simp)];simp only[Option.bind_some,List.flatten_cons,List.flatten_nil,List.append_nil];rw[v_Tag k _ ((JU _ _).app ((JU _ _).app (C.app hc))) (by simp[Es];omega)];simp only[Option.bind_some];rw[Z30 _ (Zex _ _)];simp only[Option.bind_some,Es];rw[show decide ((0:Int)<=4/\(4:Int)<=((8:Nat):Int))=true from rfl];simp only[cond_true,List.drop_zero,show Int.toNat 4 - 0=4 from rfl,ZBm 4 8 _ (by decide),V6,List.append_assoc])
theorem Zue (k q:Int) (D:Eh q) (z p:List Int) (A:Bytes z) (C:z.length<=1000) (hm:p.length<=50000):Z1F k q z p=some (Kv k q z p):=(AZ _ _).trans (by
 have e:=VG p (OT k q p.length);rw[Z1o,Nat.min_self]at e;simp only[ZbR,ZpX k q p.length (by omega),Zqq p _ (by omega),Zuk k q D z (Dz p (OT k q p.length)) A (Z1P _ _) C (by omega),DN,SL,SM];rw[gK _ (by simp[Z2C,e];omega) (by simp)];simp only[Option.bind_some,List.flatten_cons,List.flatten_nil,List.append_nil,Kv])
theorem ZyT (k:Int) (G:Eh k) (q:Int) (J:Eh q) (z c:List Int) (D:Bytes z) (hc:Bytes c) (M:z.length<=1000) (hm:c.length<=50000):dR k q z c=some (V6 k q z c):=(AZ _ _).trans (by
 have C:Lr 8 q=some ⟨num 8 q⟩:=uV 8 (by decide) _ J;have A:Lr 4 z.length=some ⟨num 4 z.length⟩:=uV 4 (by decide) _ ⟨by omega,by omega⟩;have F:oD q z c=some ⟨num 8 q++num 4 z.length++z++c⟩:=(AZ _ _).trans (by
  simp(disch:=omega) only[Z0S,wu64 (n:=(z.length:Int)) (by omega) (by omega),C,A,Es,DN,SL,SM])
 have I:Lr 4 (TM k (num 8 q++num 4 z.length++z++c))=some ⟨num 4 (TM k (num 8 q++num 4 z.length++z++c))⟩:=uV 4 (by decide) _ (Zex _ _);simp only[Z2p,F,DN,SL,SM];rw[Zye k G _ ((((JU _ _).app (JU _ _)).app D).app hc) (by simp[Es];omega)];simp only[Option.bind_some,I,V6])
theorem ZbG (k:Int) (A:Eh k) (q:Int) (C:Eh q) (z p:List Int) (D:Bytes z) (F:z.length<=1000) (hm:p.length<=50000):pV k q z p=some (Kv k q z p):=(AZ _ _).trans (by
 have e:=VG p (OT k q p.length);rw[Z1o,Nat.min_self]at e;simp(disch:=omega) only[Z21,Zqn k A q C p.length (by omega),ZxB p _ (by omega),ZyT k A q C z (Dz p (OT k q p.length)) D (Z1P _ _) F (by omega),Z2C,e,Kv,DN,SL,SM])
def bt (a:Int):Bool:=bif a==0 then true else a==1
theorem ZET (a:Int):XQ a=some (bt a):=(AZ _ _).trans (by
 simp only[Z8f,DN];unfold bt;cases (a==0)<;>rfl)
theorem ZFi (a:Int):Ur a=some (bt a):=(AZ _ _).trans (by
 simp only[Z2H,DN];unfold bt;cases (a==0)<;>rfl)
def Oo (x:Aw):Int:=bif decide (x.Ba<1) then 12 else bif decide (x.Ba>3) then 12 else bif (((x.Payload.length:Nat):Int)==0)&&(x.Ba != 1) then 1 else bif decide (((x.Payload.length:Nat):Int)>255) then 4 else 0
def FN (p:BD):Int:=bif !(bt p.SN) then 5 else bif !(bt p.Dp) then 5 else bif !(bt p.MD) then 5 else Oo p.Ak
theorem ZCX (n:Int):AV QN (.b3 n)=some (bif decide (n>255) then 4 else 0):=(AZ _ _).trans (by
 simp only[QN,DN];cases decide (n>255)<;>rfl)
theorem ZCl (p:BD):AV QN (.b1 ((p.Ak.Payload.length:Nat):Int) p)=some (Oo p.Ak):=(AZ _ _).trans (by
 have q:AV QN (.b2 ((p.Ak.Payload.length:Nat):Int) p)=some (bif (((p.Ak.Payload.length:Nat):Int)==0)&&(p.Ak.Ba != 1) then 1 else bif decide (((p.Ak.Payload.length:Nat):Int)>255) then 4 else 0):=(AZ _ _).trans (by
  simp only[QN,DN,ZCX];cases (((p.Ak.Payload.length:Nat):Int)==0)<;>cases (p.Ak.Ba != 1)<;>rfl)
 simp only[QN,DN,q];unfold Oo;cases decide (p.Ak.Ba<1)<;>cases decide (p.Ak.Ba>3)<;>rfl)
theorem ZC (p:BD):UK p=some (FN p):=(AZ _ _).trans (by
 simp only[QN,DN,ZET,Option.bind_some,ZCl];unfold FN;cases bt p.SN<;>cases bt p.Dp<;>cases bt p.MD<;>rfl)
theorem Zju (x:Aw):kS x=some (Oo x):=(AZ _ _).trans (by
 have z:AV RZ (.b2 x)=some (bif decide (((x.Payload.length:Nat):Int)>255) then 4 else 0):=(AZ _ _).trans (by
  simp only[RZ,DN];cases decide (((x.Payload.length:Nat):Int)>255)<;>rfl)
 have q:AV RZ (.b1 x)=some (bif (((x.Payload.length:Nat):Int)==0)&&(x.Ba != 1) then 1 else bif decide (((x.Payload.length:Nat):Int)>255) then 4 else 0):=(AZ _ _).trans (by
  simp only[RZ,DN,z];cases (((x.Payload.length:Nat):Int)==0)<;>cases (x.Ba != 1)<;>rfl)
 simp only[RZ,DN,q];unfold Oo;cases decide (x.Ba<1)<;>cases decide (x.Ba>3)<;>rfl)
theorem nY (p:BD):Nw p=some (FN p):=(AZ _ _).trans (by
 have q:AV YW (.b1 p)=some (Oo p.Ak):=(AZ _ _).trans (by
  simp only[YW,DN,Zju,Option.bind_some])
 simp only[YW,DN,ZFi,Option.bind_some,q];unfold FN;cases bt p.SN<;>cases bt p.Dp<;>cases bt p.MD<;>rfl)
theorem Z4v {a:Int} (h:bt a=true):a=0\/a=1:=by
 unfold bt at h;cases q:(a==0) with
 | true=>exact .inl (by simpa using q)
 | false=>rw[q]at h;exact .inr (by simpa using h)
theorem OW {p:BD} (h:FN p=0):(p.SN=0\/p.SN=1)/\(p.Dp=0\/p.Dp=1)/\(p.MD=0\/p.MD=1)/\(p.Ak.Ba=1\/p.Ak.Ba=2\/p.Ak.Ba=3)/\p.Ak.Payload.length<=255:=by
 unfold FN at h;cases q:bt p.SN with
 | false=>rw[q]at h;cases h
 | true=>
  cases z:bt p.Dp with
  | false=>rw[q,z]at h;cases h
  | true=>
   cases C:bt p.MD with
   | false=>rw[q,z,C]at h;cases h
   | true=>
    rw[q,z,C]at h;simp only[Bool.not_true,cond_false]at h;unfold Oo at h;refine⟨Z4v q,Z4v z,Z4v C,?_⟩;cases A:decide (p.Ak.Ba<1) with
    | true=>rw[A]at h;cases h
    | false=>
     cases D:decide (p.Ak.Ba>3) with
     | true=>rw[A,D]at h;cases h
     | false=>
      rw[A,D]at h;simp only[decide_eq_false_iff_not]at A D;refine⟨by omega,?_⟩;cases F:decide (((p.Ak.Payload.length:Nat):Int)>255) with
      | false=>simp only[decide_eq_false_iff_not]at F;omega
      | true=>
       rw[F]at h;simp only[cond_false,cond_true]at h;revert h;cases ((((p.Ak.Payload.length:Nat):Int)==0)&&(p.Ak.Ba != 1))<;>simp
def hdv (p:BD):Int:=p.Ak.Ba+4*p.Dp+8*p.SN+16*p.MD
def dev (p:BD):List Int×Int:=if FN p=0 then (hdv p::((p.Ak.Payload.length:Nat):Int)::p.Ak.Payload,0) else ([],FN p)
theorem ZfE {p:BD} (h:FN p=0) :
  bits .or .u8 (bits .or .u8 (bits .or .u8 (IntKind.wrap .u8 p.Ak.Ba) (IntKind.wrap .u8 ((IntKind.wrap .u8 p.Dp)*2 ^ (min (Int.toNat 2) (IntKind.bits .u8))))) (IntKind.wrap .u8 ((IntKind.wrap .u8 p.SN)*2 ^ (min (Int.toNat 3) (IntKind.bits .u8))))) (IntKind.wrap .u8 ((IntKind.wrap .u8 p.MD)*2 ^ (min (Int.toNat 4) (IntKind.bits .u8))))=hdv p /\
  IntKind.wrap .u8 (AP ((AP ((AP (p.Ak.Ba+(AP ((4:Int)*p.Dp))))+(AP ((8:Int)*p.SN))))+(AP ((16:Int)*p.MD))))=hdv p:=by
 obtain⟨h1,h2,h3,h4,-⟩:=OW h;unfold hdv;rcases h1 with h1|h1<;>rcases h2 with h2|h2<;>rcases h3 with h3|h3<;>rcases h4 with h4|h4|h4<;>rw[h1,h2,h3,h4]<;>exact⟨by decide +kernel,by decide +kernel⟩
theorem Z9s (p:BD):mW p=some (dev p):=(AZ _ _).trans (by
 simp only[Z0q,DN,nY,Option.bind_some];unfold dev
 by_cases h:FN p=0
 ·have A:=(OW h).2.2.2.2;have q:=Oq (n:=((p.Ak.Payload.length:Nat):Int)) (by omega) (by omega);have z:=Z3R 2 p.Ak.Payload.length 1 (by omega) (by omega);rw[if_pos h,h,(ZfE h).2,q,z];simp only[bne_self_eq_false,cond_false,beq_self_eq_true,cond_true,List.length_cons,List.length_nil];rfl
 ·rw[if_neg h,show (FN p != 0)=true by simpa using h];rfl)
theorem Z20 (a v:Int) (j:Int) (q:0<=j):Wj a j v=some ⟨bits .or .u8 v (IntKind.wrap .u8 ((IntKind.wrap .u8 a)*2 ^ (min (Int.toNat j) (IntKind.bits .u8))))⟩:=(AZ _ _).trans (by
 simp only[Z6l,DN,decide_eq_true q,cond_true])
theorem Zkb (p:BD):lC p=some (dev p):=(AZ _ _).trans (by
 simp only[Z6W,DN,ZC,Option.bind_some,Z20 _ _ 2 (by decide),Z20 _ _ 3 (by decide),Z20 _ _ 4 (by decide)];unfold dev
 by_cases h:FN p=0
 ·have A:=(OW h).2.2.2.2;have q:=Oq (n:=((p.Ak.Payload.length:Nat):Int)) (by omega) (by omega);have z:=gK [[hdv p,((p.Ak.Payload.length:Nat):Int)],p.Ak.Payload] (by simp;omega) (by simp);rw[if_pos h,h,(ZfE h).1,q,z];simp only[bne_self_eq_false,cond_false,beq_self_eq_true,cond_true,List.length_cons,List.length_nil,Option.bind_some];simp
 ·rw[if_neg h,show (FN p != 0)=true by simpa using h];rfl)
theorem Z33 (x:Aw):QM x=some (bif x.Ba==1 then ((x.Payload.length:Nat):Int)==0 else false):=(AZ _ _).trans (by
 simp only[Z7d,DN];cases (x.Ba==1)<;>rfl)
theorem Zai (x:Aw):Rq x=some (bif x.Ba==1 then ((x.Payload.length:Nat):Int)==0 else false):=(AZ _ _).trans (by
 simp only[Z1a,DN];cases (x.Ba==1)<;>rfl)
def Jw (s:Cb) (d:Int):Int:=bits .xor .u64 s.Bq (IntKind.wrap .u64 ((IntKind.wrap .u64 ((2:Int)*s.Tx))+d))
theorem Zb0 (s:Cb):YK s s.Bz s.Tx=some (Jw s (bif s.Bz==1 then 1 else 0)):=(AZ _ _).trans (by
 have q:∀d,AV oC (.b1 s.Tx d s)=some (Jw s d):=fun d=>(AZ _ _).trans rfl;simp only[oC,DN,q];cases (s.Bz==1)<;>rfl)
theorem ZeQ (p:BD) (l:List Int):lK p l=some ({ p with Ak:=⟨p.Ak.Ba,l⟩ }:BD):=(AZ _ _).trans rfl
theorem Zcc (p:BD) (l:List Int):aU p l=some ({ p with Ak:=⟨p.Ak.Ba,l⟩ }:BD):=(AZ _ _).trans rfl
theorem ZDb (s:Cb):ZA s=some (bif s.Bz==1 then (1,0) else (0,1)):=(AZ _ _).trans (by
 simp only[Z74,DN];cases (s.Bz==1)<;>rfl)
theorem ZBx (c:Int) (w:QQ) (d:Int):yX c w d=some (bits .xor .u64 w.Bq (IntKind.wrap .u64 ((IntKind.wrap .u64 ((2:Int)*c))+d))):=(AZ _ _).trans rfl
theorem ZC9 (s:Cb) (d:Int):Zr s d=some ⟨s,d⟩:=(AZ _ _).trans rfl
theorem ZEv (s:Cb) (p:BD) (D:Eh s.Key):lM s p=Uf s p:=by
 refine(AZ _ _).trans (Eq.trans ?_ (AZ _ _).symm);simp only[UL,Oy,DN,ZC,nY,Option.bind_some,Z33,Zai]
 by_cases h:FN p=0
 ·obtain⟨-,-,-,G,I⟩:=OW h;have b1:∀z,AV UL (.b1 p z)=some (p,0):=fun z=>(AZ _ _).trans (by
   have C:=gK [p.Ak.Payload] (by simp;omega) (by simp);simp only[UL,DN,C,ZeQ,Option.bind_some,List.flatten_cons,List.flatten_nil,List.append_nil,List.length_cons,List.length_nil,Nat.zero_add,beq_self_eq_true,cond_true])
  have b2:∀z,AV UL (.b2 s p z)=AV Oy (.b1 s p z):=fun z=>by
   refine(AZ _ _).trans (Eq.trans ?_ (AZ _ _).symm);have hb:Bytes [IntKind.wrap .u8 p.Ak.Ba]:=Bytes.cons (r8 _) Bytes.nil;have q:∀d,Eh (Jw s d):=fun d=>b64 _ _ _;have e:(bif s.Bz==1 then ((1:Int),(0:Int)) else (0,1)).1=bif s.Bz==1 then 1 else 0:=by cases (s.Bz==1)<;>rfl
   have A:=fun d=>Zue s.Key (Jw s d) (q d) [IntKind.wrap .u8 p.Ak.Ba] p.Ak.Payload hb (by simp) (by omega);have F:=fun d=>ZbG s.Key D (Jw s d) (q d) [IntKind.wrap .u8 p.Ak.Ba] p.Ak.Payload hb (by simp) (by omega);unfold Jw at A;simp only[UL,Oy,DN,ZDb,ZC9,ZBx,Zb0,Option.bind_some,e,A,F,ZeQ,Zcc];rfl
  simp only[h,b1,b2]
 ·rw[show (FN p != 0)=true by simpa using h];rfl
def Ig (a:BQ) (b:List Int):BQ:={ a with BA:=a.BA++[⟨3,b⟩] }
theorem dpv3 (b:List Int) (A:1<=b.length) (C:b.length<=60):FN ⟨0,0,0,⟨3,b⟩⟩=0:=by
 have q:(((b.length:Nat):Int)==0)=false:=by simp;intro h;subst h;simp at A
 have z:decide (((b.length:Nat):Int)>255)=false:=decide_eq_false (by omega);simp only[FN,Oo,q,z];rfl
theorem Zxe (a:BQ) (b:List Int) (G:Ie a.BA) (D:1<=b.length) (F:b.length<=60):Z0N a ⟨3,b⟩=some (if 64<=a.BA.length then (a,8) else (Ig a b,0)):=(AZ _ _).trans (by
 have A:decide (((b.length:Nat):Int)>251)=false:=decide_eq_false (by omega);have key:∀z,AV Y0 (.b1 a ⟨3,b⟩ z)=some (if 64<=a.BA.length then (a,8) else (Ig a b,0)):=fun z=>(AZ _ _).trans (by
  by_cases h:64<=a.BA.length
  ·have q:decide (((a.BA.length:Nat):Int)>=64)=true:=decide_eq_true (by omega);simp(disch:=omega) only[Y0,q,if_pos h,DN,SL,SM]
  ·have q:decide (((a.BA.length:Nat):Int)>=64)=false:=decide_eq_false (by omega);simp(disch:=omega) only[Y0,q,if_neg h,Z3j ⟨3,b⟩ (show b.length<=100000 by omega),Ig,DN,SL,SM])
 have hb:QM ⟨3,b⟩=some false:=Z33 ⟨3,b⟩;have hc:UK ⟨0,0,0,⟨3,b⟩⟩=some 0:=(ZC _).trans (congrArg some (dpv3 b D F));have C:((0:Int) != 0)=false:=rfl;simp(disch:=omega) only[Y0,Zfk a G,hb,hc,A,C,key,DN,SL,SM])
theorem ZbV (a:BQ) (b:List Int) (G:Ie a.BA) (D:1<=b.length) (F:b.length<=60):YL a ⟨3,b⟩=some (if 64<=a.BA.length then (a,8) else (Ig a b,0)):=(AZ _ _).trans (by
 have A:decide (((b.length:Nat):Int)>251)=false:=decide_eq_false (by omega);have key:∀z,AV U9 (.b1 a ⟨3,b⟩ z)=some (if 64<=a.BA.length then (a,8) else (Ig a b,0)):=fun z=>(AZ _ _).trans (by
  by_cases h:64<=a.BA.length
  ·have q:decide (((a.BA.length:Nat):Int)>=64)=true:=decide_eq_true (by omega);simp(disch:=omega) only[U9,q,if_pos h,DN,SL,SM]
  ·have q:decide (((a.BA.length:Nat):Int)>=64)=false:=decide_eq_false (by omega);simp(disch:=omega) only[U9,q,if_neg h,Ig,DN,SL,SM])
 have hb:XN ⟨3,b⟩=some false:=(AZ _ _).trans rfl;have hc:Nw ⟨0,0,0,⟨3,b⟩⟩=some 0:=(nY _).trans (congrArg some (dpv3 b D F));have C:((0:Int) != 0)=false:=rfl;simp(disch:=omega) only[U9,hb,hc,A,C,key,DN,SL,SM])
def Nb (k:Int):Bool:=bif k==3 then true else bif k==4 then true else bif k==5 then true else bif k==6 then true else k==13
theorem ZB1 (k:Int):Z01 k=some (Nb k):=(AZ _ _).trans (by
 simp only[Z8U,DN];unfold Nb;cases k==3<;>cases k==4<;>cases k==5<;>cases k==6<;>cases k==13<;>rfl)
theorem ZzO (k:Int):lY k=some (Nb k):=(AZ _ _).trans (by
 simp only[ZX,DN];unfold Nb;cases k==3<;>cases k==4<;>cases k==5<;>cases k==6<;>rfl)
def II (s:Aa):Bool:=bif decide (s.EJ>=1) then decide (s.EJ<=3) else false
theorem Zx3 (s:Aa):Y4 s=some (II s):=(AZ _ _).trans (by
 simp only[Z0P,DN];unfold II;cases decide (s.EJ>=1)<;>rfl)
theorem ZCi (s:Aa):zV s=some (II s):=(AZ _ _).trans (by
 simp only[Z6C,DN];unfold II
 by_cases q:s.EJ=1
 ·rw[q];rfl
 by_cases z:s.EJ=2
 ·rw[z];rfl
 by_cases A:s.EJ=3
 ·rw[A];rfl
 rw[beq_false_of_ne q,beq_false_of_ne z,beq_false_of_ne A]
 by_cases h:s.EJ>=1
 ·rw[decide_eq_true h,decide_eq_false (by omega)];rfl
 ·rw[decide_eq_false h];rfl)
noncomputable def Eg (c:AL):List Int:=((QU c).getD ([],0)).1
theorem ZeF {c:AL} (h:CV c):Gf c=some (Eg c,0)/\QU c=some (Eg c,0)/\1<=(Eg c).length/\(Eg c).length<=60/\Bytes (Eg c):=by
 obtain⟨x,z,q,A⟩:=ZBw h;have e:Eg c=x:=by rw[Eg,q];rfl
 rw[e];exact⟨z,q,A⟩
noncomputable def EL (q:Bool):List AL->List AL->BQ->List AL×BQ
 | [],z,a=>(z,a)
 | c::cs,z,a=>bif decide (64<=a.BA.length)||(q && !Nb c.Kind) then EL q cs (z++[c]) a else EL q cs z (Ig a (Eg c))
theorem Zej {a:BQ} {b:List Int} (h:Ie a.BA) (z:¬64<=a.BA.length) (hb:b.length<=60):Ie (Ig a b).BA:=by
 refine⟨by simp[Ig];omega,fun x q=>?_⟩;simp only[Ig,List.mem_append,List.mem_singleton]at q;rcases q with q|rfl
 ·exact h.2 x q
 ·show b.length<=100000;omega
theorem ZCF (z:List AL) (hc:∀c∈z,CV c) (hl:z.length<=100000) (q0:List Aw) (q:Bool):∀(cs:List AL) (i:Nat) (A:List AL) (s:FO),z.drop i=cs->i+cs.length=z.length->A.length<=i->Ie s.Link.Az.BA->II s.Link.Am=q ->
  AV LC (.b1 A z (z.length:Nat) i s q0)=some ⟨⟨{ s.Link with BC:=(EL q cs A s.Link.Az).1,Az:=(EL q cs A s.Link.Az).2 },s.Dt⟩,q0,z⟩:=by
 intro cs;induction cs with
 | nil=>
  intro i A s N Q hr J G;have e:i=z.length:=by simpa using Q
  subst e;refine(AZ _ _).trans ?_;simp(disch:=omega) only[LC,Int.lt_irrefl,EL,DN,SL,SM]
 | cons c cs ih=>
  intro i A s N Q hr J G;rw[List.length_cons]at Q;have D:i<z.length:=by omega
  have C:z[i]=c:=by
   have:=List.drop_eq_getElem_cons D;rw[N]at this;exact(List.cons.inj this).1.symm
  have O : z.drop (i+1)=cs:=by
   have:=List.drop_eq_getElem_cons D;rw[N]at this;exact(List.cons.inj this).2.symm
  have M:CV c:=C▸hc _ (List.getElem_mem D);obtain⟨p1,p2,p3,Y,p5⟩:=ZeF M;have b4:∀(r:List AL) (t:FO),r.length<=i+1->Ie t.Link.Az.BA->II t.Link.Am=q->AV LC (.b4 r z (z.length:Nat) i t q0)=some ⟨⟨{ t.Link with BC:=(EL q cs r t.Link.Az).1,Az:=(EL q cs r t.Link.Az).2 },t.Dt⟩,q0,z⟩:=fun r t h1 F I=>(AZ _ _).trans (by
   simp(disch:=omega) only[LC,DN,SL,SM];exact ih (i+1) r ⟨{ t.Link with BC:=z },t.Dt⟩ O (by omega) h1 F I)
  have b2:∀(t:FO),Ie t.Link.Az.BA->II t.Link.Am=q->AV LC (.b2 A z (z.length:Nat) i t c q0)=some ⟨⟨{ t.Link with BC:=(EL q cs (A++[c]) t.Link.Az).1,Az:=(EL q cs (A++[c]) t.Link.Az).2 },t.Dt⟩,q0,z⟩:=fun t F I=>(AZ _ _).trans (by
   simp(disch:=omega) only[LC,DN,SL,SM];exact b4 (A++[c]) ⟨{ t.Link with BC:=z },t.Dt⟩ (by simp;omega) F I)
  have h0:((0:Int) != 0)=false:=rfl;have b3:∀(t:FO),Ie t.Link.Az.BA->II t.Link.Am=q->¬64<=t.Link.Az.BA.length->AV LC (.b3 A z (z.length:Nat) i t c q0)=some ⟨⟨{ t.Link with BC:=(EL q cs A (Ig t.Link.Az (Eg c))).1,Az:=(EL q cs A (Ig t.Link.Az (Eg c))).2 },t.Dt⟩,q0,z⟩:=fun t F I S=>(AZ _ _).trans (by
   simp(disch:=omega) only[LC,p1,h0,Zxe _ _ F p3 Y,if_neg S,DN,SL,SM];exact b4 A ⟨{ t.Link with Az:=Ig t.Link.Az (Eg c),BC:=z },t.Dt⟩ (by omega) (Zej F S Y) I)
  refine(AZ _ _).trans ?_
  by_cases h:64<=s.Link.Az.BA.length
  ·have e:decide (((s.Link.Az.BA.length:Nat):Int)>=64)=true:=decide_eq_true (by omega);simp(disch:=omega) only[LC,D,C,e,EL,decide_eq_true h,Bool.true_or,DN,SL,SM];exact b2 ⟨{ s.Link with BC:=z },s.Dt⟩ J G
  ·have e:decide (((s.Link.Az.BA.length:Nat):Int)>=64)=false:=decide_eq_false (by omega);simp(disch:=omega) only[LC,D,C,e,EL,decide_eq_false h,Bool.false_or,ZCi,G,ZB1,DN,SL,SM];cases q with
   | false=>exact b3 ⟨{ s.Link with BC:=z },s.Dt⟩ J G h
   | true=>cases Nb c.Kind with
    | true=>exact b3 ⟨{ s.Link with BC:=z },s.Dt⟩ J G h
    | false=>exact b2 ⟨{ s.Link with BC:=z },s.Dt⟩ J G
theorem ZE7 (C:List AL) (hc:∀c∈C,CV c) (hl:C.length<=100000) (q:Bool) (z:A8):∀(cs:List AL) (i:Nat) (A:List AL) (f:Bool) (l:A8),C.drop i=cs->i+cs.length=C.length->A.length<=i->Ie l.Az.BA->II l.Am=q->l.BC=C->(f=true->64<=l.Az.BA.length) ->
  AV KE (.b1 A f i l z)=some { l with BC:=(EL q cs A l.Az).1,Az:=(EL q cs A l.Az).2 }:=by
 intro cs;induction cs with
 | nil=>
  intro i A f l O S hr I J D M;have e:i=C.length:=by simpa using S
  subst e;refine(AZ _ _).trans ?_;simp(disch:=omega) only[KE,D,Int.lt_irrefl,EL,DN,SL,SM]
 | cons c cs ih=>
  intro i A f l O S hr I J D M;rw[List.length_cons]at S;have F:i<C.length:=by omega
  have G:C[i]=c:=by
   have:=List.drop_eq_getElem_cons F;rw[O]at this;exact(List.cons.inj this).1.symm
  have Q : C.drop (i+1)=cs:=by
   have:=List.drop_eq_getElem_cons F;rw[O]at this;exact(List.cons.inj this).2.symm
  have N:CV c:=G▸hc _ (List.getElem_mem F);obtain⟨p1,p2,p3,Y,p5⟩:=ZeF N;have b4:∀(r:List AL) (g:Bool) (t:A8),r.length<=i+1->Ie t.Az.BA->II t.Am=q->t.BC=C->(g=true->64<=t.Az.BA.length)->AV KE (.b4 r g i t z)=some { t with BC:=(EL q cs r t.Az).1,Az:=(EL q cs r t.Az).2 }:=fun r g t h1 h2 h3 h4 h5=>(AZ _ _).trans (by
   simp(disch:=omega) only[KE,DN,SL,SM];exact ih (i+1) r g t Q (by omega) h1 h2 h3 h4 h5)
  have b2:AV KE (.b2 A f i l z c)=some { l with BC:=(EL q cs (A++[c]) l.Az).1,Az:=(EL q cs (A++[c]) l.Az).2 }:=(AZ _ _).trans (by
   simp(disch:=omega) only[KE,DN,SL,SM];exact b4 (A++[c]) f l (by simp;omega) I J D M)
  have h0:((0:Int) != 0)=false:=rfl;have h8:((8:Int) != 0)=true:=rfl;have b3:AV KE (.b3 A f i l z c)=some (if 64<=l.Az.BA.length then { l with BC:=(EL q cs (A++[c]) l.Az).1,Az:=(EL q cs (A++[c]) l.Az).2 } else { l with BC:=(EL q cs A (Ig l.Az (Eg c))).1,Az:=(EL q cs A (Ig l.Az (Eg c))).2 }):=(AZ _ _).trans (by
   by_cases h:64<=l.Az.BA.length
   ·simp(disch:=omega) only[KE,p2,h0,h8,ZbV _ _ I p3 Y,if_pos h,DN,SL,SM];exact b4 (A++[c]) true l (by simp;omega) I J D (fun _=>h)
   ·simp(disch:=omega) only[KE,p2,h0,h8,ZbV _ _ I p3 Y,if_neg h,DN,SL,SM];exact b4 A f { l with Az:=Ig l.Az (Eg c) } (by omega) (Zej I h Y) J D (fun hg=>absurd (M hg) h))
  refine(AZ _ _).trans ?_;simp(disch:=omega) only[KE,D,F,G,Zx3,J,ZzO,b2,b3,EL,DN,SL,SM]
  by_cases h:64<=l.Az.BA.length
  ·rw[if_pos h,decide_eq_true h];cases f<;>cases q<;>cases Nb c.Kind<;>rfl
  ·rw[if_neg h,decide_eq_false h];cases f with
   | true=>exact absurd (M rfl) h
   | false=>cases q<;>cases Nb c.Kind<;>rfl
noncomputable def moveF (l:A8):A8:={ l with BC:=(EL (II l.Am) l.BC [] l.Az).1,Az:=(EL (II l.Am) l.BC [] l.Az).2 }
theorem ZFM (l:A8) (q:List BB) (hc:∀c∈l.BC,CV c) (z:l.BC.length<=100000) (A:Ie l.Az.BA):∃a b,Zb ⟨l,q⟩=some ⟨⟨moveF l,q⟩,a,b⟩:=
 ⟨l.Az.BA,l.BC,(AZ _ _).trans (by
  simp(disch:=omega) only[LC,DN,SL,SM];exact ZCF l.BC hc z l.Az.BA _ l.BC 0 [] ⟨l,q⟩ rfl (by omega) (by simp) A rfl)⟩
theorem ZeL (l:A8) (hc:∀c∈l.BC,CV c) (q:l.BC.length<=100000) (z:Ie l.Az.BA):oP l=some (moveF l):=(AZ _ _).trans (by
 simp(disch:=omega) only[KE,DN,SL,SM];exact ZE7 l.BC hc q _ _ l.BC 0 [] false l rfl (by omega) (by simp) z rfl rfl (fun h=>nomatch h))
theorem ZdW (x y:Nat):(x ^^^ y) / 2=x / 2 ^^^ y / 2:=by
 apply Nat.eq_of_testBit_eq;intro i;rw[Nat.testBit_xor];simp only[Nat.testBit_div_two];rw[Nat.testBit_xor]
theorem ZBU (x y:Nat):(x ^^^ y) % 2=(x % 2+y % 2) % 2:=by
 have h:=Nat.xor_mod_two_pow (a:=x) (b:=y) (n:=1);rw[Nat.pow_one]at h;rw[h];rcases Nat.mod_two_eq_zero_or_one x with hx|hx<;>rcases Nat.mod_two_eq_zero_or_one y with hy|hy<;>simp only[hx,hy]<;>rfl
def JL (x:Nat):Nat:=if x % 2=1 then x / 2 ^^^ 14311424 else x / 2
theorem Zda (x y:Nat):JL (x ^^^ y)=JL x ^^^ JL y:=by
 unfold JL;rw[ZdW,ZBU];rcases Nat.mod_two_eq_zero_or_one x with hx|hx<;>rcases Nat.mod_two_eq_zero_or_one y with hy|hy<;>simp only[hx,hy]<;>simp
 ·rw[Nat.xor_assoc]
 ·rw[Nat.xor_assoc,Nat.xor_assoc,Nat.xor_comm (y / 2)]
 ·rw[Nat.xor_assoc,Nat.xor_comm 14311424,Nat.xor_assoc,Nat.xor_self,Nat.xor_zero]
theorem Zdq (x:Nat):JL (2*x)=x:=by
 unfold JL;rw[if_neg (by omega)];omega
def step4 (x:Nat):Nat:=JL (JL (JL (JL x)))
theorem ZzC (x y:Nat):step4 (x ^^^ y)=step4 x ^^^ step4 y:=by
 unfold step4;simp only[Zda]
theorem ZAI (x:Nat):step4 (16*x)=x:=by
 unfold step4;rw[show 16*x=2*(2*(2*(2*x))) by omega];simp only[Zdq]
theorem ZCj (x:Nat):16*(x / 16) ^^^ x % 16=x:=by
 apply Nat.eq_of_testBit_eq;intro i;rw[Nat.testBit_xor,show 16=2 ^ 4 from rfl,Nat.testBit_two_pow_mul,Nat.testBit_mod_two_pow,Nat.testBit_div_two_pow]
 by_cases h:4<=i
 ·have e:i - 4+4=i:=by omega
  simp[h,e,Nat.not_lt.2 h]
 ·simp[h,Nat.lt_of_not_le h]
theorem ZxN (x:Nat):step4 x=x / 16 ^^^ step4 (x % 16):=by
 conv=>lhs;rw[<- ZCj x,ZzC,ZAI]
def fb (r b:Nat):Nat:=JL (r ^^^ b)
theorem fb4 (r v:Nat) (A:v<16):fb (fb (fb (fb r (v % 2)) (v / 2 % 2)) (v / 4 % 2)) (v / 8 % 2)=step4 (r ^^^ v):=by
 have q:∀z b,JL z ^^^ b=JL (z ^^^ 2*b):=fun z b=>by rw[Zda,Zdq]
 unfold fb step4;rw[q,q,q,q,q,q];have:v % 2 ^^^ 2*(v / 2 % 2) ^^^ 2*(2*(v / 4 % 2)) ^^^ 2*(2*(2*(v / 8 % 2)))=v:=by
  have:∀v:Fin 16,v.val % 2 ^^^ 2*(v.val / 2 % 2) ^^^ 2*(2*(v.val / 4 % 2)) ^^^ 2*(2*(2*(v.val / 8 % 2)))=v.val:=by decide +kernel
  exact this ⟨v,A⟩
 rw[Nat.xor_assoc,Nat.xor_assoc,Nat.xor_assoc,<- Nat.xor_assoc (v % 2),<- Nat.xor_assoc (v % 2 ^^^ _),this]
theorem fC (x:Nat) (h:x<16777216):JL x<16777216:=by
 unfold JL;split
 ·exact Nat.xor_lt_two_pow (n:=24) (by omega) (by decide)
 ·omega
theorem Z39 {x y:Nat} (h:x<16777216) (q : y<16777216):x ^^^ y<16777216:=Nat.xor_lt_two_pow (n:=24) h q
theorem Ec {x b:Nat} (h:x<16777216) (hb:b<2):fb x b<16777216:=fC _ (Z39 h (by omega))
def QC (r v:Nat):Nat:=fb (fb (fb (fb (fb (fb (fb (fb r (v % 2)) (v / 2 % 2)) (v / 4 % 2)) (v / 8 % 2)) (v / 16 % 2)) (v / 32 % 2)) (v / 64 % 2)) (v / 128 % 2)
theorem ZFY (r v:Nat) (A:v<256):QC r v=step4 (step4 (r ^^^ v % 16) ^^^ v / 16):=by
 have q:=fb4 r (v % 16) (by omega);have z:=fb4 (step4 (r ^^^ v % 16)) (v / 16) (by omega);rw[show v % 16 % 2=v % 2 by omega,show v % 16 / 2 % 2=v / 2 % 2 by omega,show v % 16 / 4 % 2=v / 4 % 2 by omega,show v % 16 / 8 % 2=v / 8 % 2 by omega]at q;rw[<- q,show v / 16 / 2=v / 32 by omega,show v / 16 / 4=v / 64 by omega,show v / 16 / 8=v / 128 by omega,q]at z;unfold QC;rw[q];exact z
theorem ZBI (t:Nat) (h:t<16):([0,1788928,3577856,3003392,7155712,7764992,6006784,4252672,14311424,12659712,15529984,16233472,12013568,11279360,8505344,10126336]:List Int)[t]? = some ((step4 t:Nat):Int):=by
 have:∀t:Fin 16,([0,1788928,3577856,3003392,7155712,7764992,6006784,4252672,14311424,12659712,15529984,16233472,12013568,11279360,8505344,10126336]:List Int)[t.val]? = some ((step4 t.val:Nat):Int):=by decide +kernel
 exact this ⟨t,h⟩
theorem and15 (a:Nat) (h:a<4294967296):bits .and .u32 (a:Int) 15=((a % 16:Nat):Int):=by
 rw[show (15:Int)=((15:Nat):Int) from rfl,(bits_nat .u32 32 (by decide) wraps_u32 a 15 h (by decide)).1,show 15=2 ^ 4 - 1 from rfl,Nat.and_two_pow_sub_one_eq_mod]
theorem andM (a:Nat) (h:a<4294967296):bits .and .u32 (a:Int) 16777215=((a % 16777216:Nat):Int):=by
 rw[show (16777215:Int)=((16777215:Nat):Int) from rfl,(bits_nat .u32 32 (by decide) wraps_u32 a 16777215 h (by decide)).1,show 16777215=2 ^ 24 - 1 from rfl,Nat.and_two_pow_sub_one_eq_mod]
theorem vC (a j:Nat):Int.fdiv (a:Int) (2 ^ j)=((a / 2 ^ j:Nat):Int):=by
 rw[show (2:Int) ^ j=((2 ^ j:Nat):Int) by simp];exact(Int.ofNat_fdiv a (2 ^ j)).symm
theorem Zdv (x:Nat) (h:x<16777216):step4 x<16777216:=fC _ (fC _ (fC _ (fC _ h)))
theorem tab (r w:Nat) (q:w<16):r / 16 ^^^ step4 ((r ^^^ w) % 16)=step4 (r ^^^ w):=by
 conv=>rhs;rw[ZxN]
 congr 1;have:=Nat.xor_div_two_pow (a:=r) (b:=w) (n:=4);rw[show (2:Nat) ^ 4=16 from rfl,Nat.div_eq_of_lt q,Nat.xor_zero]at this;exact this.symm
theorem ZDn (r w:Nat):(r ^^^ w) % 16=(r ^^^ w % 16) % 16:=by
 have q:=Nat.xor_mod_two_pow (a:=r) (b:=w) (n:=4);have z:=Nat.xor_mod_two_pow (a:=r) (b:=w % 16) (n:=4);rw[show (2:Nat) ^ 4=16 from rfl]at q z;rw[q,z,Nat.mod_mod]
theorem half (n w:Nat) (q:n<16777216) (z:w<256) :
  bits .and .u32 (bits .xor .u32 (n:Int) (w:Int)) 15=(((n ^^^ w) % 16:Nat):Int)/\bits .xor .u32 (Int.fdiv (n:Int) (2 ^ 4)) ((step4 ((n ^^^ w) % 16):Nat):Int)=((step4 (n ^^^ w % 16):Nat):Int):=by
 have A:n ^^^ w<16777216:=Z39 q (by omega);refine⟨?_,?_⟩
 ·rw[u32_xor_nat n w (by omega) (by omega),and15 _ (by omega)]
 ·have:=Zdv ((n ^^^ w) % 16) (by omega);rw[vC,u32_xor_nat _ _ (by omega) (by omega),show n / 2 ^ 4=n / 16 from rfl,ZDn,tab n (w % 16) (by omega)]
theorem in16 (t:Nat) (h:t<16):decide ((0:Int)<=(t:Int)/\(t:Int)<16)=true:=decide_eq_true (by omega)
theorem Zvh (n v:Nat) (q:n<16777216) (z:v<256):pY (n:Int) (v:Int)=some ((QC n v:Nat):Int):=(AZ _ _).trans (by
 obtain⟨A,C⟩:=half n v q z;have I:n ^^^ v % 16<16777216:=Z39 q (by omega);obtain⟨b1,b2⟩:=half (step4 (n ^^^ v % 16)) (v / 16) (Zdv _ I) (by omega);have D:=J9 (n:=(v:Int)) (by omega) (by omega);have F:=J9 (n:=((v / 16:Nat):Int)) (by omega) (by omega);have G:Int.fdiv (v:Int) (2 ^ 4)=((v / 16:Nat):Int):=vC v 4;rw[show v / 16 % 16=v / 16 by omega,<- ZFY n v z]at b2;simp only[Zbu,DN,D,F,G,A,in16 _ (Nat.mod_lt _ (by decide)),cond_true,Int.toNat_natCast,ZBI _ (Nat.mod_lt _ (by decide)),Option.bind_some,C,b1,b2])
theorem Z47 {n v:Nat} (z:n<16777216):QC n v<16777216:=by
 have q:∀x,x % 2<2:=fun x=>Nat.mod_lt _ (by decide);exact Ec (Ec (Ec (Ec (Ec (Ec (Ec (Ec z (q _)) (q _)) (q _)) (q _)) (q _)) (q _)) (q _)) (q _)
def Vs (r:Nat) (xs:List Int):Nat:=xs.foldl (fun r x=>QC r x.toNat) r
theorem Z3B {r:Nat} (xs:List Int) (h:r<16777216):Vs r xs<16777216:=by
 induction xs generalizing r with
 | nil=>exact h
 | cons x xs q=>exact q (Z47 h)
theorem ZwD (n:Nat) (x:Int) (q:n<16777216) (z:0<=x/\x<256):pY (n:Int) x=some ((QC n x.toNat:Nat):Int):=by
 have:=Zvh n x.toNat q (by omega);rwa[Int.toNat_of_nonneg z.1]at this
theorem Zzh (r:Int) (A:0<=r/\r<4294967296) (xs:List Int) (hb:Bytes xs) (C:xs.length<=100000):Z2F r xs=some ((Vs (r.toNat % 16777216) xs:Nat):Int):=(AZ _ _).trans (by
 obtain⟨n,rfl⟩:=Int.eq_ofNat_of_zero_le A.1;simp only[eF,DN,andM n (by omega),Int.toNat_natCast];exact(Z2s (fun(s:Nat) i=>AV eF (.b1 (s:Int) xs (xs.length:Int) i)) xs (fun r x=>QC r x.toNat) (fun s=>some (s:Int)) (fun _ s=>s<16777216)
  (fun i s q z=>⟨(AZ _ _).trans (by
   simp(disch:=omega) only[eF,q,ZwD s _ z (hb.get i q),DN,SL,SM]),Z47 z⟩)
  (fun s _=>(AZ _ _).trans (by simp only[eF,Int.lt_irrefl,DN,SL,SM])) _ (Nat.mod_lt _ (by decide))).1)
theorem Zwb (n b:Nat) (J:n<16777216) (hb:b<2):o5 (n:Int) (b:Int)=some ((fb n b:Nat):Int):=(AZ _ _).trans (by
 have z:Int.tmod (n:Int) 2=((n % 2:Nat):Int):=(Int.ofNat_tmod n 2).symm;have A:Int.tdiv (n:Int) 2=((n / 2:Nat):Int):=(Int.ofNat_tdiv n 2).symm;have q:(n ^^^ b) % 2=n % 2 ^^^ b:=by
  have:=Nat.xor_mod_two_pow (a:=n) (b:=b) (n:=1);rwa[Nat.pow_one,Nat.mod_eq_of_lt hb]at this
 have C:(n ^^^ b) / 2=n / 2:=by rw[ZdW,Nat.div_eq_of_lt hb,Nat.xor_zero]
 have I:n % 2 ^^^ b<2:=by rw[<- q];omega
 have D:=u32_xor_nat (n % 2) b (by omega) (by omega);have F:=u32_xor_nat (n / 2) 14311424 (by omega) (by decide);have G:=J9 (n:=((n / 2:Nat):Int)) (by omega) (by omega);simp only[Z1C,DN,z,A,D,G];unfold fb JL;rw[q,C]
 by_cases h:n % 2 ^^^ b=1
 ·rw[if_pos h,h];exact congrArg some F
 ·rw[if_neg h,show n % 2 ^^^ b=0 by omega];rfl)
theorem Q3 (xs:List Int) (s:Nat) (i:Int) (v k:Nat) (F:s<16777216) (I:v<4294967296) (G:k<8) :
  AV Ls (.b2 xs (s:Int) i (v:Int) (k:Int))=AV Ls (.b2 xs ((fb s (v % 2):Nat):Int) i ((v / 2:Nat):Int) ((k+1:Nat):Int)):=(AZ _ _).trans (by
 have z:Int.tmod (v:Int) 2=((v % 2:Nat):Int):=(Int.ofNat_tmod v 2).symm;have A:Int.tdiv (v:Int) 2=((v / 2:Nat):Int):=(Int.ofNat_tdiv v 2).symm;have C:=J9 (n:=((v / 2:Nat):Int)) (by omega) (by omega);have D:decide ((k:Int)<8)=true:=decide_eq_true (by omega);have q:=Qa k (by omega);simp only[Ls,DN,z,A,C,D,q,Zwb s (v % 2) F (Nat.mod_lt _ (by decide)),cond_true,Option.bind_some])
theorem Zxi (xs:List Int) (s i v:Nat) (z:s<16777216) (D:v<256) (C:i<1000000) :
  AV Ls (.b2 xs (s:Int) (i:Int) (v:Int) ((0:Nat):Int))=AV Ls (.b1 xs ((QC s v:Nat):Int) ((i+1:Nat):Int)):=by
 have q:∀x,x % 2<2:=fun x=>Nat.mod_lt _ (by decide);rw[Q3 _ _ _ _ _ z (by omega) (by omega),Q3 _ _ _ _ _ (Ec z (q _)) (by omega) (by omega),Q3 _ _ _ _ _ (Ec (Ec z (q _)) (q _)) (by omega) (by omega),
  Q3 _ _ _ _ _ (Ec (Ec (Ec z (q _)) (q _)) (q _)) (by omega) (by omega),Q3 _ _ _ _ _ (Ec (Ec (Ec (Ec z (q _)) (q _)) (q _)) (q _)) (by omega) (by omega),
  Q3 _ _ _ _ _ (Ec (Ec (Ec (Ec (Ec z (q _)) (q _)) (q _)) (q _)) (q _)) (by omega) (by omega),
  Q3 _ _ _ _ _ (Ec (Ec (Ec (Ec (Ec (Ec z (q _)) (q _)) (q _)) (q _)) (q _)) (q _)) (by omega) (by omega),
  Q3 _ _ _ _ _ (Ec (Ec (Ec (Ec (Ec (Ec (Ec z (q _)) (q _)) (q _)) (q _)) (q _)) (q _)) (q _)) (by omega) (by omega)]
 have e:∀a b:Nat,v / a / b=v / (a*b):=fun a b=>Nat.div_div_eq_div_mul v a b;simp only[e,Nat.reduceMul,Nat.reduceAdd];refine(AZ _ _).trans ?_;have A:decide (((8:Nat):Int)<8)=false:=by decide
 simp only[Ls,DN,A,cond_false,Qa i (by omega)];rfl
theorem Zze (r:Int) (D:0<=r/\r<4294967296) (xs:List Int) (hb:Bytes xs) (F:xs.length<=100000):dF r xs=some ((Vs (r.toNat % 16777216) xs:Nat):Int):=(AZ _ _).trans (by
 obtain⟨n,rfl⟩:=Int.eq_ofNat_of_zero_le D.1;have C:Int.tmod (n:Int) 16777216=((n % 16777216:Nat):Int):=(Int.ofNat_tmod n 16777216).symm;simp only[Ls,DN,C,Int.toNat_natCast];exact(Z2s (fun(s:Nat) i=>AV Ls (.b1 xs (s:Int) i)) xs (fun r x=>QC r x.toNat) (fun s=>some (s:Int)) (fun _ s=>s<16777216)
  (fun i s q z=>⟨(AZ _ _).trans (by
   have A:=hb.get i q;have h:=Zxi xs s i xs[i].toNat z (by omega) (by omega);rw[Int.toNat_of_nonneg A.1]at h;simp(disch:=omega) only[Ls,q,J9 A.1 (by omega),DN,SL,SM];exact h),Z47 z⟩)
  (fun s _=>(AZ _ _).trans (by simp only[Ls,Int.lt_irrefl,DN,SL,SM])) _ (Nat.mod_lt _ (by decide))).1)
def Pm (n:Nat):List Int:=[((n % 256:Nat):Int),((n / 256 % 256:Nat):Int),((n / 65536:Nat):Int)]
theorem ZqV {n:Nat} (h:n<16777216):Bytes (Pm n):=by
 unfold Pm;exact Bytes.cons (by omega) (Bytes.cons (by omega) (Bytes.cons (by omega) Bytes.nil))
def IC (r:Int) (xs:List Int):List Int:=xs++Pm (Vs (r.toNat % 16777216) xs)
theorem Z92 (r:Int) (A:0<=r/\r<4294967296) (xs:List Int) (hb:Bytes xs) (q:xs.length<=100000):Xh r xs=some (IC r xs):=(AZ _ _).trans (by
 have C:=Z3B (r:=r.toNat % 16777216) xs (Nat.mod_lt _ (by decide));have hc:NF xs=some ⟨xs⟩:=by
  have:=Sr;have:=SG;unfold NF;rw[if_pos ⟨by omega,by omega⟩]
 unfold IC;generalize z:Vs (r.toNat % 16777216) xs=n at C;have e:[IntKind.wrap .u8 (n:Int),IntKind.wrap .u8 (Int.fdiv (n:Int) (2 ^ 8)),IntKind.wrap .u8 (Int.fdiv (n:Int) (2 ^ 16))]=Pm n:=by
  rw[vC,vC,IntKind.wrap_u8,IntKind.wrap_u8,IntKind.wrap_u8];unfold Pm;simp only[List.cons.injEq,and_true];refine⟨by omega,by omega,by omega⟩
 simp(disch:=omega) only[Z9D,Zzh r A xs hb q,z,hc,e,DN,SL,SM,Pm])
theorem Z9x (r:Int) (J:0<=r/\r<4294967296) (xs:List Int) (hb:Bytes xs) (G:xs.length<=100000):Xo r xs=some (IC r xs):=(AZ _ _).trans (by
 have M:=Z3B (r:=r.toNat % 16777216) xs (Nat.mod_lt _ (by decide));unfold IC;generalize I:Vs (r.toNat % 16777216) xs=n at M;have N:aZ (n:Int)=some (Pm n):=(AZ _ _).trans (by
  have q:Int.tmod (n:Int) 256=((n % 256:Nat):Int):=(Int.ofNat_tmod n 256).symm;have z:Int.tdiv (n:Int) 256=((n / 256:Nat):Int):=(Int.ofNat_tdiv n 256).symm;have A:Int.tdiv (n:Int) 65536=((n / 65536:Nat):Int):=(Int.ofNat_tdiv n 65536).symm;have C:=J9 (n:=((n / 256:Nat):Int)) (by omega) (by omega);have D:=J9 (n:=((n / 65536:Nat):Int)) (by omega) (by omega);have F:Int.tmod ((n / 256:Nat):Int) 256=((n / 256 % 256:Nat):Int):=(Int.ofNat_tmod _ 256).symm;simp only[Z1z,q,z,A,C,D,F,Oq (n:=((n % 256:Nat):Int)) (by omega) (by omega),Oq (n:=((n / 256 % 256:Nat):Int)) (by omega) (by omega),Oq (n:=((n / 65536:Nat):Int)) (by omega) (by omega),DN,SL,SM];rfl)
 simp(disch:=omega) only[Z0p,Zze r J xs hb G,I,N,DN,SL,SM,Pm])
def TT (r:Nat):Nat:=if r<64 then 2*r else (2*r % 128) ^^^ 17
theorem ZEA {r:Nat} (h:r<128):TT r<128:=by
 unfold TT;split
 ·omega
 ·exact Nat.xor_lt_two_pow (n:=7) (by omega) (by decide)
def Ei (r:Nat):Nat->Nat
 | 0=>r
 | j+1=>TT (Ei r j)
theorem VT {r:Nat} (h:r<128):∀j,Ei r j<128
 | 0=>h
 | j+1=>ZEA (VT h j)
def Iw (r:Nat):Nat->Nat
 | 0=>0
 | j+1=>Iw r j+2 ^ j*(Ei r j / 64)
theorem tV {r:Nat} (h:r<128):∀j,Iw r j<2 ^ j
 | 0=>by simp[Iw]
 | j+1=>by
  have z:=tV h j;have A:=VT h j;have q:Ei r j / 64<=1:=by omega
  have C:2 ^ j*(Ei r j / 64)<=2 ^ j*1:=Nat.mul_le_mul_left _ q;rw[Iw,Nat.pow_succ];omega
def Ib (r:Nat):Nat->List Int
 | 0=>[]
 | n+1=>Ib r n++[((Iw (Ei r (8*n)) 8:Nat):Int)]
theorem Rt (r:Nat):∀n,(Ib r n).length=n
 | 0=>rfl
 | n+1=>by rw[Ib,List.length_append,Rt r n];rfl
theorem Zc5 {r:Nat} (h:r<128):∀n,Bytes (Ib r n)
 | 0=>Bytes.nil
 | n+1=>(Zc5 h n).app (Bytes.cons (by have:=tV (VT h (8*n)) 8;omega) Bytes.nil)
theorem Z3w (r a:Nat):∀b,Ei r (a+b)=Ei (Ei r a) b
 | 0=>rfl
 | b+1=>by rw[<- Nat.add_assoc,Ei,Ei,Z3w r a b]
def JG (c:Int):Nat:=64+(max 0 (min c 39)).toNat
theorem Z2t (c:Int):JG c<128:=by unfold JG;omega
theorem Zm4 (c:Int):ZN c=some ((JG c:Nat):Int):=(AZ _ _).trans (by
 simp only[Z7u,DN,Option.some.injEq];rw[Fq (by split<;>(try split)<;>omega) (by split<;>(try split)<;>omega)];unfold JG;split<;>(try split)<;>omega)
theorem ZqT (c:Int):oJ c=some ((JG c:Nat):Int):=(AZ _ _).trans (by
 simp only[Z0L,DN,Option.some.injEq];rw[Fq (by split<;>(try split)<;>omega) (by split<;>(try split)<;>omega)];unfold JG;split<;>(try split)<;>omega)
theorem Zuq (r:Nat) (h:r<128):pK (r:Int)=some ((TT r:Nat):Int):=by
 have:∀r:Fin 128,bits .xor .i64 (Int.tmod (AP ((r.val:Int)*2)) 128) (17:Int)=(((2*r.val % 128) ^^^ 17:Nat):Int):=by decide +kernel
 have q:=this ⟨r,h⟩;refine(AZ _ _).trans ?_;simp only[Z1H,DN]at q ⊢;unfold TT
 by_cases z:r<64
 ·rw[decide_eq_false (by omega),if_pos z,cond_false,Fq (by omega) (by omega),show (r:Int)*2=((2*r:Nat):Int) by omega,show Int.tmod ((2*r:Nat):Int) 128=((2*r % 128:Nat):Int) from(Int.ofNat_tmod _ _).symm,Nat.mod_eq_of_lt (by omega)]
 ·rw[decide_eq_true (by omega),if_neg z,cond_true,q]
theorem ZmC (r:Nat) (h:r<128):Z08 (r:Int)=some (((r / 64:Nat):Int),((TT r:Nat):Int)):=by
 have:∀r:Fin 128,bits .xor .i64 (bits .and .i64 (AP ((r.val:Int)*2 ^ (1:Nat))) (127:Int)) (17:Int)=(((2*r.val % 128) ^^^ 17:Nat):Int):=by decide +kernel
 have q:=this ⟨r,h⟩;refine(AZ _ _).trans ?_;simp only[Z8O,DN]at q ⊢;unfold TT
 by_cases z:r<64
 ·rw[decide_eq_true (by omega),if_pos z,cond_true,Fq (by omega) (by omega),show r / 64=0 by omega,show (r:Int)*2 ^ 1=((2*r:Nat):Int) by omega];rfl
 ·rw[decide_eq_false (by omega),if_neg z,cond_false,q,show r / 64=1 by omega];rfl
theorem Zf4 {r j:Nat} (h:r<128) (z:j<8):2 ^ j<=128/\Ei r j / 64<=1/\2 ^ j*(Ei r j / 64)<=2 ^ j/\Iw r j<2 ^ j/\Ei r j<128:=by
 have q:=VT h j;have hb:Ei r j / 64<=1:=by omega
 exact⟨Nat.pow_le_pow_right (j:=7) (by decide) (by omega),hb,Nat.le_trans (Nat.mul_le_mul_left _ hb) (by omega),tV h j,q⟩
theorem Zxt (n i:Int) (acc:List Int) (r j:Nat) (h:r<128) (F:j<8) :
  AV LD (.b2 n acc ((Ei r j:Nat):Int) i ((Iw r j:Nat):Int) ((2 ^ j:Nat):Int) (j:Int))=AV LD (.b2 n acc ((Ei r (j+1):Nat):Int) i ((Iw r (j+1):Nat):Int) ((2 ^ (j+1):Nat):Int) ((j+1:Nat):Int)):=(AZ _ _).trans (by
 obtain⟨b1,b2,b3,b4,b5⟩:=Zf4 h F;have q:Int.tdiv ((Ei r j:Nat):Int) 64=((Ei r j / 64:Nat):Int):=(Int.ofNat_tdiv _ 64).symm;have z:AP (((2 ^ j:Nat):Int)*AP ((Ei r j / 64:Nat):Int))=((2 ^ j*(Ei r j / 64):Nat):Int):=by
  rw[Fq (n:=((Ei r j / 64:Nat):Int)) (by omega) (by omega),<- Int.natCast_mul,Fq (by omega) (by omega)]
 have A:AP (((Iw r j:Nat):Int)+((2 ^ j*(Ei r j / 64):Nat):Int))=((Iw r (j+1):Nat):Int):=by
  rw[<- Int.natCast_add,Fq (by omega) (by omega)];rfl
 have C:AP (((2 ^ j:Nat):Int)*2)=((2 ^ (j+1):Nat):Int):=by
  rw[Fq (by omega) (by omega),Nat.pow_succ];exact(Int.natCast_mul _ 2).symm
 have D:decide ((j:Int)<8)=true:=decide_eq_true (by omega);simp only[LD,DN,D,cond_true,Zuq _ b5,Option.bind_some,beq_self_eq_true,q,z,A,C,Qa j (by omega)];rfl)
theorem Zvg (n:Int) (acc:List Int) (r i:Nat) (h:r<128) (D:i<1000000) (C:acc.length<=100000) :
  AV LD (.b2 n acc (r:Int) (i:Int) 0 1 0)=AV LD (.b1 n (acc++[((Iw r 8:Nat):Int)]) ((Ei r 8:Nat):Int) ((i+1:Nat):Int)):=by
 have s:=fun j A=>Zxt n (i:Int) acc r j h A;refine(s 0 (by omega)).trans ((s 1 (by omega)).trans ((s 2 (by omega)).trans ((s 3 (by omega)).trans ((s 4 (by omega)).trans ((s 5 (by omega)).trans ((s 6 (by omega)).trans ((s 7 (by omega)).trans ((AZ _ _).trans ?_))))))));have F:Iw r 8<256:=tV h 8;have q:decide (((7+1:Nat):Int)<8)=false:=by decide
 have z:=Oq (n:=((Iw r (7+1):Nat):Int)) (by omega) (by show ((Iw r 8:Nat):Int)<256;omega);simp(disch:=omega) only[LD,q,z,DN,SL,SM]
theorem ZuF (n r:Nat) (h:r<128) (C:n<=100000):∀d i:Nat,i+d=n->AV LD (.b1 (n:Int) (Ib r i) ((Ei r (8*i):Nat):Int) (i:Int))=some (Ib r n):=by
 intro d;induction d with
 | zero=>
  intro i q;rw[show i=n by omega];refine(AZ _ _).trans ?_;simp only[LD,Int.lt_irrefl,DN,SL,SM]
 | succ d A=>
  intro i q;refine(AZ _ _).trans ?_;have z:i<n:=by omega
  simp(disch:=omega) only[LD,z,DN,SL,SM];refine(Zvg (n:Int) (Ib r i) (Ei r (8*i)) i (VT h _) (by omega) (by rw[Rt];omega)).trans ?_;have:=A (i+1) (by omega);rw[show 8*(i+1)=8*i+8 by omega,Z3w]at this;exact this
theorem Zmj (c:Int) (n:Nat) (q:n<=100000):lQ c (n:Int)=some (Ib (JG c) n):=(AZ _ _).trans (by
 simp only[LD,ZqT,DN,SL,SM];exact ZuF n (JG c) (Z2t c) q n 0 (by omega))
theorem or_bit (v y j:Nat) (z:j<8) (C:v<2 ^ j) (q:y<=1):bits .or .u8 (v:Int) ((2 ^ j*y:Nat):Int)=((v+2 ^ j*y:Nat):Int):=by
 have A:2 ^ j<=128:=Nat.pow_le_pow_right (j:=7) (by decide) (by omega);have hm:2 ^ j*y<=2 ^ j*1:=Nat.mul_le_mul_left _ q;rw[Zfz .u8 8 (by decide) wraps_u8 j (by omega) (v:Int) ((2 ^ j*y:Nat):Int) (by omega) (by
  rw[show (2:Int) ^ j=((2 ^ j:Nat):Int) by simp,<- Int.natCast_emod,Nat.mul_mod_right];rfl) (by omega) (by omega) (by
  rw[show (2:Int) ^ j=((2 ^ j:Nat):Int) by simp];omega)]
 omega
theorem Zem (pre post:List Int) (v:Int) (i:Nat) (h:pre.length=i):(pre++v::post)[i]? = some v:=by
 subst h;simp
theorem Zeo (pre post:List Int) (v u:Int) (i:Nat) (h:pre.length=i):(pre++v::post).set i u=pre++u::post:=by
 subst h;simp
theorem Zpo (n:Int) (pre post:List Int) (r j i:Nat) (h:r<128) (q:j<8) (z:pre.length=i) :
  AV NG (.b2 ((Ei r j:Nat):Int) (pre++((Iw r j:Nat):Int)::post) (i:Int) n (i:Int) (j:Int))=AV NG (.b2 ((Ei r (j+1):Nat):Int) (pre++((Iw r (j+1):Nat):Int)::post) (i:Int) n (i:Int) ((j+1:Nat):Int)):=(AZ _ _).trans (by
 obtain⟨b1,b2,b3,b4,b5⟩:=Zf4 h q;have A:decide ((j:Int)<8)=true:=decide_eq_true (by omega);have C:decide ((0:Int)<=(i:Int)/\(i:Int)<((pre.length+(post.length+1):Nat):Int))=true:=decide_eq_true ⟨by omega,by omega⟩;have D:decide ((0:Int)<=(j:Int))=true:=decide_eq_true (by omega);have F:IntKind.wrap .u8 (AP (((Ei r j / 64:Nat):Int)*2 ^ (min j (IntKind.bits .i64))))=((2 ^ j*(Ei r j / 64):Nat):Int):=by
  rw[show min j (IntKind.bits .i64)=j from Nat.min_eq_left (by show j<=64;omega),show ((Ei r j / 64:Nat):Int)*2 ^ j=((2 ^ j*(Ei r j / 64):Nat):Int) by rw[Int.natCast_mul,Int.mul_comm];simp,Fq (by omega) (by omega),Oq (by omega) (by omega)]
 have G:(decide (0<=i))=true:=rfl;simp only[NG,DN,A,C,D,F,G,cond_true,ZmC _ b5,Option.bind_some,beq_self_eq_true,Bool.and_self,Int.toNat_natCast,Zem _ _ _ _ z,Zeo _ _ _ _ _ z,or_bit _ _ _ q b4 b2,List.length_append,List.length_cons,Qa j (by omega)];rfl)
theorem ZnI (n:Int) (pre post:List Int) (r i:Nat) (h:r<128) (A:pre.length=i) (C:i<1000000) :
  AV NG (.b2 (r:Int) (pre++0::post) (i:Int) n (i:Int) 0)=AV NG (.b1 ((Ei r 8:Nat):Int) (pre++[((Iw r 8:Nat):Int)]++post) n ((i+1:Nat):Int)):=by
 have s:=fun j z=>Zpo n pre post r j i h z A;refine(s 0 (by omega)).trans ((s 1 (by omega)).trans ((s 2 (by omega)).trans ((s 3 (by omega)).trans ((s 4 (by omega)).trans ((s 5 (by omega)).trans ((s 6 (by omega)).trans ((s 7 (by omega)).trans ((AZ _ _).trans ?_))))))));have q:decide (((7+1:Nat):Int)<8)=false:=by decide
 simp(disch:=omega) only[NG,q,Qa i (by omega),DN,cond_false,cond_true,beq_self_eq_true];rw[List.append_assoc];rfl
theorem ZmV (n r:Nat) (h:r<128) (C:n<=100000):∀d i:Nat,i+d=n->AV NG (.b1 ((Ei r (8*i):Nat):Int) (Ib r i++List.replicate (n - i) 0) (n:Int) (i:Int))=some ⟨Ib r n⟩:=by
 intro d;induction d with
 | zero=>
  intro i q;rw[show i=n by omega,Nat.sub_self,List.replicate_zero,List.append_nil];refine(AZ _ _).trans ?_;simp only[NG,Int.lt_irrefl,DN,SL,SM]
 | succ d A=>
  intro i q;refine(AZ _ _).trans ?_;have z:i<n:=by omega
  simp(disch:=omega) only[NG,z,DN,SL,SM];rw[show n - i=(n - (i+1))+1 by omega,List.replicate_succ];refine(ZnI (n:Int) (Ib r i) (List.replicate (n - (i+1)) 0) (Ei r (8*i)) i (VT h _) (Rt r i) (by omega)).trans ?_;have:=A (i+1) (by omega);rw[show 8*(i+1)=8*i+8 by omega,Z3w]at this;exact this
theorem ZjO (c:Int) (n:Nat) (z:n<=100000):zO c (n:Int)=some ⟨Ib (JG c) n⟩:=(AZ _ _).trans (by
 have q:decide ((0:Int)<=(n:Int)/\(n:Int)<=(n:Int)/\n*1<=lim/\(n:Int)<=((maxLen:Nat):Int))=true:=by
  have:=Sr;have:=SG;exact decide_eq_true ⟨by omega,by omega,by omega,by omega⟩
 simp only[NG,DN,Zm4,Option.bind_some,Int.toNat_natCast,q,cond_true,beq_self_eq_true,List.length_replicate];exact ZmV n (JG c) (Z2t c) z n 0 (by omega))
def xw (s b:List Int):List Int:=List.zipWith (fun x y=>bits .xor .u8 x y) s b
theorem ZeT {s b:List Int} (h:s.length=b.length):(xw s b).length=b.length:=by
 unfold xw;rw[List.length_zipWith,h,Nat.min_self]
theorem Zy0 (x y:Int):bits .xor .u8 x y=bits .xor .u8 y x:=by
 simp only[bits,BitVec.xor_comm]
theorem Zee (s b:List Int) (i:Nat) (q:i<s.length) (hb:i<b.length):xw (s.take (i+1)) (b.take (i+1))=xw (s.take i) (b.take i)++[bits .xor .u8 s[i] b[i]]:=by
 unfold xw;rw[List.take_succ_eq_append_getElem q,List.take_succ_eq_append_getElem hb,List.zipWith_append (by rw[List.length_take,List.length_take];omega)];rfl
theorem ZeJ (s b:List Int) (i:Nat) (q:i<=s.length) (hb:i<=b.length):(xw (s.take i) (b.take i)).length=i:=by
 rw[ZeT (by rw[List.length_take,List.length_take];omega),List.length_take];omega
theorem ZmW (s b:List Int) (M:s.length=b.length) (N:b.length<=100000):∀d i:Nat,i+d=b.length->AV XK (.b1 (xw (s.take i) (b.take i)++s.drop i) b (b.length:Int) (i:Int))=some (xw s b):=by
 intro d;induction d with
 | zero=>
  intro i I;have e:i=b.length:=by omega
  subst e;refine(AZ _ _).trans ?_;simp only[XK,Int.lt_irrefl,DN,SL,SM];rw[List.drop_eq_nil_of_le (by omega),List.append_nil,List.take_of_length_le (by omega),List.take_of_length_le (by omega)]
 | succ d J=>
  intro i I;refine(AZ _ _).trans ?_;have z:i<b.length:=by omega
  have A:i<s.length:=by omega
  have q:=ZeJ s b i (by omega) (by omega);have C:decide ((0:Int)<=(i:Int)/\(i:Int)<((i+((s.drop (i+1)).length+1):Nat):Int))=true:=decide_eq_true ⟨by omega,by omega⟩;have D:decide ((0:Int)<=(i:Int)/\(i:Int)<(b.length:Int))=true:=decide_eq_true ⟨by omega,by omega⟩;have F:decide ((i:Int)<(b.length:Int))=true:=decide_eq_true (by omega);have G:(decide (0<=i))=true:=rfl;rw[List.drop_eq_getElem_cons A];simp only[XK,DN,D,F,G,cond_true,Option.bind_some,beq_self_eq_true,Bool.and_self,Int.toNat_natCast,Zem _ _ _ _ q,Zeo _ _ _ _ _ q,List.length_append,List.length_cons,q,C,List.getElem?_eq_getElem z,Qa i (by omega)];have:=J (i+1) (by omega);rw[Zee s b i A z,List.append_assoc]at this;exact this
theorem Z7G (c:Int) (b:List Int) (q:b.length<=100000):lS c b=some (xw (Ib (JG c) b.length) b):=(AZ _ _).trans (by
 simp only[XK,DN,ZjO c b.length q,Option.bind_some,beq_self_eq_true,cond_true];exact ZmW (Ib (JG c) b.length) b (Rt _ _) q b.length 0 (by omega))
theorem ZwT (s b:List Int) (F:s.length=b.length) (G:b.length<=100000):∀d i:Nat,i+d=b.length->AV U6 (.b1 b s (xw (s.take i) (b.take i)) (i:Int))=some ⟨xw s b⟩:=by
 intro d;induction d with
 | zero=>
  intro i A;have e:i=b.length:=by omega
  subst e;refine(AZ _ _).trans ?_;simp only[U6,Int.lt_irrefl,DN,SL,SM];rw[List.take_of_length_le (by omega),List.take_of_length_le (by omega)]
 | succ d D=>
  intro i A;refine(AZ _ _).trans ?_;have q:i<b.length:=by omega
  have z:i<s.length:=by omega
  have C:=ZeJ s b i (by omega) (by omega);simp(disch:=omega) only[U6,q,z,C,DN,SL,SM];have:=D (i+1) (by omega);rw[Zee s b i z q,Zy0]at this;exact this
theorem Zam (c:Int) (b:List Int) (q:b.length<=100000):Yc c b=some ⟨xw (Ib (JG c) b.length) b⟩:=(AZ _ _).trans (by
 simp only[U6,Zmj c b.length q,DN,SL,SM];exact ZwT (Ib (JG c) b.length) b (Rt _ _) q b.length 0 (by omega))
open Go Go.Proofs.YtjodhcdmhobmoaaGreatDoor.Le Go.Proofs.YtjodhcdmhobmoaaGreatDoor.Na
theorem Qw (n:Int):IntKind.u16.wrap n=n % 65536:=by simp[IntKind.wrap,IntKind.bits,IntKind.signed]
theorem wu32L (n:Int):IntKind.u32.wrap n=n % 4294967296:=by simp[IntKind.wrap,IntKind.bits,IntKind.signed]
theorem ZAH (x a i:Nat) (D:x<65536) (C:a<65536) (F:i<8):AV UT (.b1 x a i)=AV UT (.b1 x (a ||| ((x >>> i &&& 257) <<< (7 - i)):Nat) (i+1:Nat)):=by
 refine(AZ _ _).trans ?_;simp only[UT,DN];have q:(x >>> i &&& 257) <<< (7 - i)<65536:=by
  have z:(x >>> i &&& 257)<=257:=Nat.and_le_right;rw[Nat.shiftLeft_eq];have A:2 ^ (7 - i)<=2 ^ 7:=Nat.pow_le_pow_right (by decide) (by omega);exact Nat.lt_of_le_of_lt (Nat.mul_le_mul z A) (by decide)
 rw[show decide ((i:Int)<8)=true by simp;omega,Fh (n:=7 - (i:Int)) (by omega) (by omega),show decide ((0:Int)<=(i:Int))=true by simp,show decide ((0:Int)<=7 - (i:Int))=true by simp;omega];simp only[cond_true];rw[Fh (n:=(i:Int)+1) (by omega) (by omega),show (i:Int).toNat=i by omega,show (7 - (i:Int)).toNat=7 - i by omega,
  show min i IntKind.u16.bits=i from Nat.min_eq_left (by simp[IntKind.bits];omega),show min (7 - i) IntKind.u16.bits=7 - i from Nat.min_eq_left (by simp[IntKind.bits];omega),fd]
 rw[show (257:Int)=((257:Nat):Int) from rfl,u16_and_nat _ _ (Nat.lt_of_le_of_lt (Nat.div_le_self _ _) D) (by decide),Qw];rw[show ((x / 2 ^ i &&& 257:Nat):Int)*2 ^ (7 - i)=(((x >>> i &&& 257) <<< (7 - i):Nat):Int) by rw[Nat.shiftLeft_eq,Nat.shiftRight_eq_div_pow];simp];have hm:(((x >>> i &&& 257) <<< (7 - i):Nat):Int) % 65536=(((x >>> i &&& 257) <<< (7 - i):Nat):Int):=Int.emod_eq_of_lt (Int.natCast_nonneg _) (Int.ofNat_lt.mpr q);rw[hm,u16_or_nat _ _ C q];rfl
theorem ZDI {a b:Nat} (q:a<65536) (hb:b<65536):a ||| b<65536:=Nat.or_lt_two_pow (n:=16) q hb
theorem sh_lt (x i:Nat):(x >>> i &&& 257) <<< (7 - i)<65536:=by
 have q:(x >>> i &&& 257)<=257:=Nat.and_le_right;rw[Nat.shiftLeft_eq];have z:2 ^ (7 - i)<=2 ^ 7:=Nat.pow_le_pow_right (by decide) (by omega);exact Nat.lt_of_le_of_lt (Nat.mul_le_mul q z) (by decide)
def WC (x:Nat):Nat->Nat
 | 0=>0
 | i+1=>WC x i ||| ((x >>> i &&& 257) <<< (7 - i))
theorem ZDQ (x i:Nat):WC x i<65536:=by
 induction i with
 | zero=>exact(by decide:(0:Nat)<65536)
 | succ i q=>exact ZDI q (sh_lt x i)
theorem ZAF (x:Nat) (z:x<65536):∀j i:Nat,i+j=8->AV UT (.b1 x (WC x i:Nat) i)=some ((WC x 8:Nat):Int):=by
 intro j;induction j with
 | zero=>
  intro i q;refine(AZ _ _).trans ?_;simp only[UT,DN];rw[show decide ((i:Int)<8)=false by simp;omega,show i=8 by omega];rfl
 | succ j A=>
  intro i q;rw[ZAH x _ i z (ZDQ x i) (by omega)];exact A (i+1) (by omega)
theorem ZDt (x:Nat):WC x 8=Jf x:=by
 simp only[WC,Jf,Nat.zero_or]
theorem ZmQ (x:Nat) (q:x<65536):Z0f (x:Int)=some ((Jf x:Nat):Int):=(AZ _ _).trans (by
 rw[<- ZDt];exact ZAF x q 8 0 (by omega))
theorem ZBh (k:Nat):∀j i x r:Nat,i+j=8->x<256->r<2 ^ i->AV XH (.b1 x r i)=some ((rv j x r:Nat):Int):=by
 intro j;induction j with
 | zero=>
  intro i x r z C q;refine(AZ _ _).trans ?_;simp only[XH,DN];rw[show decide ((i:Int)<8)=false by simp;omega];rfl
 | succ j D=>
  intro i x r z C q;have A : r<256:=Nat.lt_of_lt_of_le q (Nat.le_trans (Nat.pow_le_pow_right (by decide) (show i<=8 by omega)) (by decide));refine(AZ _ _).trans ?_;simp only[XH,DN];rw[show decide ((i:Int)<8)=true by simp;omega];simp only[cond_true];rw[Int.tdiv_eq_ediv_of_nonneg (Int.natCast_nonneg _),Int.tmod_eq_emod_of_nonneg (Int.natCast_nonneg _)];rw[Fh (n:=(x:Int) / 2) (by omega) (by omega),Fh (n:=2*(r:Int)) (by omega) (by omega),Fh (n:=2*(r:Int)+(x:Int) % 2) (by omega) (by omega),Fh (n:=(i:Int)+1) (by omega) (by omega)];exact D (i+1) (x / 2) (2*r+x % 2) (by omega) (by omega) (by rw[Nat.pow_succ];omega)
theorem Z7s (x:Nat) (q:x<256):XJ (x:Int)=some ((rv 8 x 0:Nat):Int):=(AZ _ _).trans (ZBh 0 8 0 x 0 (by omega) q (by decide))
def Nk (c:Nat):Nat->Nat->Nat
 | 0,a=>a ^^^ c
 | k+1,a=>Nk c k ((17*Jf a+c) % 65536)
theorem ZFI (c:Nat) (hc:c<65536):∀k a,a<65536->Nk c k a<65536:=by
 intro k;induction k with
 | zero=>intro a q;exact Nat.xor_lt_two_pow (n:=16) q hc
 | succ k z=>intro a q;exact z _ (Nat.mod_lt _ (by decide))
theorem ZAE (c:Nat) (hc:c<65536):∀j i a:Nat,i+j=3->a<65536->AV Xx (.b1 c a i)=some ((Nk c j a:Nat):Int):=by
 intro j;induction j with
 | zero=>
  intro i a z q;refine(AZ _ _).trans ?_;simp only[Xx,DN];rw[show decide ((i:Int)<3)=false by simp;omega];simp only[cond_false];rw[u16_xor_nat _ _ q hc];rfl
 | succ j A=>
  intro i a z q;refine(AZ _ _).trans ?_;simp only[Xx,DN];rw[show decide ((i:Int)<3)=true by simp;omega,ZmQ a q];simp only[cond_true,Option.bind_some];rw[Qw,Qw,Fh (by omega) (by omega)];have C:=Zf8 a q;rw[show (((Jf a:Nat):Int)*17 % 65536+(c:Int)) % 65536=(((17*Jf a+c) % 65536:Nat):Int) by omega];exact A (i+1) _ (by omega) (Nat.mod_lt _ (by decide))
theorem Z9C (c d:Nat) (hc:c<65536) (q:d<65536):mX (c:Int) (d:Int)=some ((Nk d 3 (c ^^^ d):Nat):Int):=(AZ _ _).trans (by
 simp only[Xx,DN];rw[u16_xor_nat _ _ hc q];exact ZAE d q 3 0 _ (by omega) (Nat.xor_lt_two_pow (n:=16) hc q))
theorem ZBj (c:Nat) (hc:c<65536):∀j i a:Nat,i+j=3->a<65536->AV UY (.b1 c a i)=some ((Nk c j a:Nat):Int):=by
 intro j;induction j with
 | zero=>
  intro i a F A;refine(AZ _ _).trans ?_;simp only[UY,DN];rw[show decide ((i:Int)<3)=false by simp;omega];simp only[cond_false];rw[u16_xor_nat _ _ A hc];rfl
 | succ j G=>
  intro i a F A;refine(AZ _ _).trans ?_;simp only[UY,DN];rw[show decide ((i:Int)<3)=true by simp;omega,Fh (n:=(a:Int)) (by omega) (by omega),Fh (n:=(c:Int)) (by omega) (by omega)];rw[Int.tdiv_eq_ediv_of_nonneg (Int.natCast_nonneg _),Int.tmod_eq_emod_of_nonneg (Int.natCast_nonneg _),Fh (n:=(a:Int) / 256) (by omega) (by omega)];rw[show (a:Int) / 256=((a / 256:Nat):Int) by omega,show (a:Int) % 256=((a % 256:Nat):Int) by omega,Z7s _ (by omega),Z7s _ (by omega)];simp only[cond_true,Option.bind_some];have J:=Zf8 a A;have C:=(VO (a % 256) (Nat.mod_lt _ (by omega))).2.2;have D:=(VO (a / 256) (by omega)).2.2;have I:=Zf6 a A;generalize rv 8 (a / 256) 0=q at *;generalize rv 8 (a % 256) 0=z at *;rw[Fh (n:=256*(q:Int)) (by omega) (by omega),Fh (n:=256*(q:Int)+(z:Int)) (by omega) (by omega),Fh (n:=17*(256*(q:Int)+(z:Int))) (by omega) (by omega),Fh (n:=17*(256*(q:Int)+(z:Int))+c) (by omega) (by omega),Int.tmod_eq_emod_of_nonneg (by omega),Qw,Fh (n:=(i:Int)+1) (by omega) (by omega)];rw[show (17*(256*(q:Int)+(z:Int))+c) % 65536 % 65536=(((17*Jf a+c) % 65536:Nat):Int) by omega];exact G (i+1) _ (by omega) (Nat.mod_lt _ (by decide))
theorem Z9j (c d:Nat) (hc:c<65536) (q:d<65536):Xv (c:Int) (d:Int)=some ((Nk d 3 (c ^^^ d):Nat):Int):=(AZ _ _).trans (by
 simp only[UY,DN];rw[u16_xor_nat _ _ hc q];exact ZBj d q 3 0 _ (by omega) (Nat.xor_lt_two_pow (n:=16) hc q))
def ident (a:Nat):Nat:=(a / 65536) ^^^ (a % 65536)
theorem VF (a:Nat) (q:a<4294967296):ident a<65536:=Nat.xor_lt_two_pow (n:=16) (by omega) (by omega)
theorem Za5 (a:Nat) (q:a<4294967296):nT (a:Int)=some ((ident a:Nat):Int):=(AZ _ _).trans (by
 simp only[Zaz,DN];rw[fd,Qw,Qw,show ((a / 2 ^ 16:Nat):Int) % 65536=((a / 65536:Nat):Int) by omega,show (a:Int) % 65536=((a % 65536:Nat):Int) by omega,u16_xor_nat _ _ (by omega) (by omega)];rfl)
theorem Zb2 (a:Nat) (q:a<4294967296):YU (a:Int)=some ((ident a:Nat):Int):=(AZ _ _).trans (by
 simp only[Z1g,DN];rw[Int.tdiv_eq_ediv_of_nonneg (Int.natCast_nonneg _),Int.tmod_eq_emod_of_nonneg (Int.natCast_nonneg _),Qw,Qw,wu32L,show (a:Int) / 65536 % 4294967296 % 65536=((a / 65536:Nat):Int) by omega,show (a:Int) % 65536 % 65536=((a % 65536:Nat):Int) by omega,u16_xor_nat _ _ (by omega) (by omega)];rfl)
def draw (e a:Nat):Nat:=Nk (ident a) 3 (e ^^^ ident a)
theorem rZ (e a:Nat) (z:e<65536) (q:a<4294967296):draw e a<65536:=ZFI _ (VF a q) 3 _ (Nat.xor_lt_two_pow (n:=16) z (VF a q))
def mix (m:Int) (e a:Nat):Int:=if has m ((draw e a % 37:Nat):Int) then ((draw e a % 37:Nat):Int) else NC m (cnt m*(draw e a:Nat) / 65536)
theorem tm37 (n:Nat) (h:n<65536):Int.tmod (AP (n:Int)) 37=((n % 37:Nat):Int):=by
 rw[Fh (by omega) (by omega),Int.tmod_eq_emod_of_nonneg (Int.natCast_nonneg _)];omega
theorem ZfH (m:Int) (n:Nat) (h:n<65536):0<=cnt m*(n:Int)/\cnt m*(n:Int)<=2424832:=by
 have:=ZE9 m;refine⟨Int.mul_nonneg this.1 (by omega),?_⟩;exact Int.le_trans (Int.mul_le_mul this.2 (show (n:Int)<=65536 by omega) (by omega) (by decide)) (by decide)
theorem Zzr (m e a:Nat) (hm:m<18446744073709551616) (A:e<65536) (q:a<4294967296):Z2k (m:Int) (e:Int) (a:Int)=some (mix m e a):=(AZ _ _).trans (by
 simp only[Zd0,DN,Za5 a q,Option.bind_some,Z9C e _ A (VF a q),Z7S (m:Int) _ (Int.natCast_nonneg m),Zy m hm,Z8d,mix];rw[show Nk (ident a) 3 (e ^^^ ident a)=draw e a from rfl];have z:=rZ e a A q;have hc:=ZfH m _ z;rw[tm37 _ z,Fh (n:=((draw e a:Nat):Int)) (by omega) (by omega),Fh (by omega) (by omega),show ((2:Int) ^ 16)=65536 from rfl,Int.fdiv_eq_ediv_of_nonneg _ (by decide)];cases has (m:Int) ((draw e a % 37:Nat):Int)<;>rfl)
theorem ZyA (m e a:Nat) (hm:m<18446744073709551616) (A:e<65536) (q:a<4294967296):qG (m:Int) (e:Int) (a:Int)=some (mix m e a):=(AZ _ _).trans (by
 simp only[Z2q,DN,Zb2 a q,Option.bind_some,Z9j e _ A (VF a q),Z2E m hm,Z1s m hm,Zdk m hm,mix];rw[show Nk (ident a) 3 (e ^^^ ident a)=draw e a from rfl];have z:=rZ e a A q;have hc:=ZfH m _ z;rw[tm37 _ z,Fh (n:=((draw e a:Nat):Int)) (by omega) (by omega),Fh (n:=cnt (m:Int)*((draw e a:Nat):Int)) (by omega) (by omega),Int.tdiv_eq_ediv_of_nonneg hc.1,Fh (by omega) (by omega)];cases has (m:Int) ((draw e a % 37:Nat):Int)<;>rfl)
def step (l h:Int):Int:=Int.tmod (AP ((AP ((Int.tmod l (37:Int))+(Int.tmod h (37:Int))))+(74:Int))) (37:Int)
theorem Zwj (l h:Int):Z1N l h=some (step l h):=(AZ _ _).trans rfl
theorem ZvC (l h:Int):oW l h=some (step l h):=(AZ _ _).trans rfl
structure PWF (p:Ey):Prop where
 acc:0<=p.IK/\p.IK<4294967296
 map:0<=p.Map/\p.Map<18446744073709551616
def iH (p:Ey) (e:Nat) (l:Int):Int×Int:=
 if p.KW=2 then (mix p.Map e p.IK.toNat,((draw e p.IK.toNat % 37:Nat):Int)) else (gV p.Map (step l p.Hop),step l p.Hop)
theorem Zwo (p:Ey) (q:PWF p) (e:Nat) (z:e<65536) (l:Int):Z2c p (e:Int) l=some (iH p e l):=(AZ _ _).trans (by
 obtain⟨a,A⟩:∃a:Nat,p.IK=a:=⟨p.IK.toNat,by have:=q.acc;omega⟩;obtain⟨m,hm⟩:∃m:Nat,p.Map=m:=⟨p.Map.toNat,by have:=q.map;omega⟩;have C:=q.acc;have D:=q.map;simp only[Zcd,DN,iH,A,hm,Int.toNat_natCast]at *;rw[Za5 a (by omega)];simp only[Option.bind_some];rw[Z9C e _ z (VF a (by omega)),Zzr m e a (by omega) z (by omega),Zwj];simp only[Option.bind_some];rw[Zlz m (by omega)];rw[show Nk (ident a) 3 (e ^^^ ident a)=draw e a from rfl];have F:=rZ e a z (by omega)
 by_cases h:p.KW=2
 ·rw[h,show Int.tmod ((draw e a:Nat):Int) 37=((draw e a % 37:Nat):Int) by rw[Int.tmod_eq_emod_of_nonneg (Int.natCast_nonneg _)];omega,Fh (by omega) (by omega)];rfl
 ·rw[show (p.KW==2)=false by simpa using h,if_neg h];rfl)
theorem Zv4 (p:Ey) (q:PWF p) (e:Nat) (z:e<65536) (l:Int):aA p (e:Int) l=some (iH p e l):=(AZ _ _).trans (by
 obtain⟨a,A⟩:∃a:Nat,p.IK=a:=⟨p.IK.toNat,by have:=q.acc;omega⟩;obtain⟨m,hm⟩:∃m:Nat,p.Map=m:=⟨p.Map.toNat,by have:=q.map;omega⟩;have D:=q.acc;have F:=q.map;simp only[Z1B,DN,iH,A,hm,Int.toNat_natCast]at *;rw[Zb2 a (by omega),ZyA m e a (by omega) z (by omega),ZvC];simp only[Option.bind_some];rw[Z9j e _ z (VF a (by omega)),ZsZ m (by omega)];simp only[Option.bind_some];rw[show Nk (ident a) 3 (e ^^^ ident a)=draw e a from rfl];have C:=rZ e a z (by omega)
 by_cases h:p.KW=2
 ·rw[h,tm37 _ C];rfl
 ·rw[show (p.KW==2)=false by simpa using h,if_neg h];rfl)
theorem gJ {a:BQ} (h:DJ a):Ie a.BA:=⟨by have:=h.2.2.1;omega,fun x q=>by have:=(h.2.2.2.1 x q).2.2.2.1;omega⟩
theorem Zes {l:A8} (C:JR l.Bl) (A:R16 l.Event):∃c,Nr l=some c/\QR l=some c:=by
 obtain⟨e,z⟩:∃e:Nat,l.Event=e:=⟨l.Event.toNat,by have:=A.1;omega⟩;have q:e<65536:=by have:=A.2;omega
 have D:PWF l.Bl:=⟨C.1,C.2.2⟩;refine⟨(iH l.Bl e l.Last).1,(AZ _ _).trans ?_,(AZ _ _).trans ?_⟩
 ·simp only[ZJ,DN,z,Zwo _ D e q,Option.bind_some]
 ·simp only[mO,DN,z,Zv4 _ D e q,Option.bind_some]
theorem ZAQ (w:QZ):xM w=some (w.Link.Bd==0):=(AZ _ _).trans rfl
theorem ZAx (L z S : A8) (q:List BB) (p:BD) (D:JR L.Bl) (M:R16 L.Event) (N:CG p.Ak):AV YT (.b1 z ⟨L,q⟩ p)=AV Nz (.b1 L S p):=by
 obtain⟨e,G,Y,C⟩:=Z9J p N;have A : lC p=some e:=(Zkb p).trans ((Z9s p).symm.trans G);obtain⟨c,I,J⟩:=Zes D M;obtain⟨x,x1,x2,x3⟩:=Z9B L.Bl.FQ e.1 (by omega) C;have F : Xh L.Bl.FQ e.1=some x:=(Z92 _ D.2.1 _ C (by omega)).trans ((Z9x _ D.2.1 _ C (by omega)).symm.trans x1);have O:=Z7G c x (by omega);have Q:=Zam c x (by omega);refine(AZ _ _).trans (Eq.trans ?_ (AZ _ _).symm);simp only[YT,Nz,DN,G,A,I,J,x1,F,O,Q,Option.bind_some,beq_self_eq_true,cond_true]
theorem ZeO {k:Int} {l:A8} (h:BO k l) (G:0<=k) (h1:k<=100000):∃y,nO l=some y/\PD l=some y/\BO k y.1/\y.2.length<=300/\CU y.2:=by
 obtain⟨y,hy,hk,hl,hb⟩:=Z2e k l h G (by omega);refine⟨y,?_,hy,hk,hl,hb⟩;rw[<- hy];obtain⟨o,ho,J⟩:=Zs2 k l h G (by omega);have C:∀c∈l.BC,CV c:=h.2.2.2.2.2.1;have A:l.BC.length<=100000:=by have:=h.2.2.2.2.1;omega
 obtain⟨a,b,hm⟩:=ZFM l [] C A (gJ h.1);have F:=ZeL l C A (gJ h.1);obtain⟨l2,D,q⟩:=Z12 k l h G (by omega);rw[F]at D;cases D;obtain⟨r,hr,r1,r2,Q⟩:=Z2b (moveF l).Az q.1;have N : SA (moveF l).Az=some r:=(Zcz _ (gJ q.1)).trans hr;obtain⟨s,hs,s1,s2⟩:=ZbK (moveF l).DY r.2 q.2.2.1 Q;have O : lM (moveF l).DY r.2=some s:=(ZEv _ _ q.2.2.1.1).trans hs;have M:=q.2.2.2.1;have I:=q.2.2.2.2.2.2.2.1;refine(AZ _ _).trans (Eq.trans ?_ (AZ _ _).symm);simp only[YT,Nz,DN,ho,J,ZAQ,hm,F,hr,N,hs,O,Option.bind_some,beq_self_eq_true,Bool.and_self,cond_true,List.length_nil];rw[show (l.Bd != 0) = !(l.Bd==0) from rfl];have S:∀p z Y,CG p.Ak->AV YT (.b1 z ⟨{ moveF l with More:=(r.2.MD==1),Az:=r.1 },[]⟩ p)=AV Nz (.b1 { moveF l with More:=(r.2.MD==1),Az:=r.1 } Y p):=fun p z Y hq=>ZAx _ z Y [] p M I hq;cases (!(l.Bd==0))
 ·simp only[cond_false];cases (moveF l).DY.Gm
  ·exact S _ _ _ Q
  ·cases (s.2==0)
   ·exact S _ _ _ Q
   ·exact S _ _ _ s1
 ·rfl
theorem ZBH (q:Bool):∀(cs z:List AL) (a:BQ),∃r,(EL q cs z a).1=z++r/\a.BA.length<=(EL q cs z a).2.BA.length/\∀c∈r,(decide (64<=(EL q cs z a).2.BA.length)||(q && !Nb c.Kind))=true:=by
 intro cs;induction cs with
 | nil=>intro z a;exact⟨[],(List.append_nil _).symm,Nat.le_refl _,fun c h=>nomatch h⟩
 | cons c cs F=>
  intro z a;rw[EL];cases h:(decide (64<=a.BA.length)||(q && !Nb c.Kind)) with
  | true=>
   obtain⟨r,A,C,D⟩:=F (z++[c]) a;refine⟨c::r,by rw[cond_true,A,List.append_assoc];rfl,C,fun d hd=>?_⟩;rcases List.mem_cons.1 hd with rfl|hd
   ·rw[cond_true];rw[Bool.or_eq_true]at h ⊢;rcases h with h|h
    ·exact .inl (decide_eq_true (by have:=of_decide_eq_true h;omega))
    ·exact .inr h
   ·exact D d hd
  | false=>
   obtain⟨r,A,C,D⟩:=F z (Ig a (Eg c));exact⟨r,A,Nat.le_trans (by simp[Ig]) C,D⟩
theorem ZCo (q:Bool) (a:BQ):∀(cs z:List AL),(∀c∈cs,(decide (64<=a.BA.length)||(q && !Nb c.Kind))=true)->EL q cs z a=(z++cs,a):=by
 intro cs;induction cs with
 | nil=>intro z _;rw[EL,List.append_nil]
 | cons c cs C=>
  intro z h;rw[EL,h c List.mem_cons_self,cond_true,C _ fun d A=>h d (List.mem_cons_of_mem _ A),List.append_assoc];rfl
theorem Zv3 (l:A8) (b:BQ) (m:Bool) (hb:b.BA=(moveF l).Az.BA):moveF { moveF l with More:=m,Az:=b } = { moveF l with More:=m,Az:=b }:=by
 obtain⟨r,q,A,z⟩:=ZBH (II l.Am) l.BC [] l.Az;rw[List.nil_append]at q;have e:EL (II l.Am) (EL (II l.Am) l.BC [] l.Az).1 [] b=((EL (II l.Am) l.BC [] l.Az).1,b):=by
  rw[q];exact ZCo _ b r [] (by rw[hb];exact z)
 show ({ moveF l with More:=m,BC:=(EL (II l.Am) (EL (II l.Am) l.BC [] l.Az).1 [] b).1,Az:=(EL (II l.Am) (EL (II l.Am) l.BC [] l.Az).1 [] b).2 }:A8)=_;rw[e];rfl
def opn (a:BQ):BQ:=bif !a.Open then { a with Open:=true,Empty:=(((a.BA.length:Nat):Int)==0) } else a
def pkt (b:BQ):BD:=bif b.Empty then ⟨b.SN,b.Dp,bif decide (((b.BA.length:Nat):Int)>0) then 1 else 0,⟨1,[]⟩⟩ else match b.BA with
 | []=>⟨b.SN,b.Dp,0,⟨1,[]⟩⟩
 | p::q=>⟨b.SN,b.Dp,bif decide (((q.length:Nat):Int)>0) then 1 else 0,p⟩
theorem ZeU (n:Int) (b z:BQ) (w:BD) (p:BD):AV IJ (.b3 n b z w p)=some (b,bif decide (n>0) then { p with MD:=1 } else p):=(AZ _ _).trans (by
 have b4:∀x y u v,AV IJ (.b4 x y u v)=some (x,v):=fun x y u v=>(AZ _ _).trans rfl;simp only[IJ,DN,b4];cases decide (n>0)<;>rfl)
theorem ZeW (b z:BQ) (w:BD) (A:b.BA.length<=1000):AV IJ (.b1 b z w)=some (b,pkt b):=(AZ _ _).trans (by
 have b2:∀(p:Aw) (q:List Aw) y u v,b.BA=p::q->AV IJ (.b2 (b.BA.length:Nat) b y u v)=some (b,bif decide (((q.length:Nat):Int)>0) then { ({ v with Ak:=p }:BD) with MD:=1 } else { v with Ak:=p }):=fun p q y u v h=>(AZ _ _).trans (by
  rw[h]at A;have e:AP (((p::q).length:Nat) - 1:Int)=((q.length:Nat):Int):=by
   rw[List.length_cons]at A ⊢;rw[Fq (by omega) (by omega)];omega
  have D:decide ((0:Int)<=(0:Int)/\(0:Int)<(((p::q).length:Nat):Int))=true:=decide_eq_true ⟨by decide,by rw[List.length_cons];omega⟩;simp only[IJ,DN,h,e,D,cond_true,show ((p::q)[Int.toNat 0]? : Option Aw)=some p from rfl,Option.bind_some,ZeU])
 simp only[IJ,DN,Zaj,Option.bind_some,ZeU];unfold pkt;cases F:b.Empty with
 | true=>
  simp only[Bool.not_true,cond_false,cond_true];cases decide (((b.BA.length:Nat):Int)>0)<;>rfl
 | false=>
  simp only[Bool.not_false,cond_false,cond_true];cases C:b.BA with
  | nil=>rfl
  | cons p q=>
   rw[show decide ((((p::q).length:Nat):Int)>0)=true from decide_eq_true (by rw[List.length_cons];omega),cond_true];have:=b2 p q z w ⟨b.SN,b.Dp,0,⟨1,[]⟩⟩ C;rw[C]at this;refine this.trans ?_;dsimp only;cases decide (((q.length:Nat):Int)>0)<;>rfl)
theorem Zfw (a:BQ) (q:a.BA.length<=1000):aP a=some (opn a,pkt (opn a)):=(AZ _ _).trans (by
 simp only[IJ,DN];unfold opn;cases a.Open
 ·exact ZeW _ _ _ q
 ·exact ZeW _ _ _ q)
theorem opn_q (a:BQ):(opn a).BA=a.BA:=by unfold opn;cases a.Open<;>rfl
theorem Z4k (a:BQ):(opn a).Open=true:=by
 unfold opn;cases h:a.Open
 ·rfl
 ·exact h
theorem Zeg (a:BQ):opn (opn a)=opn a:=by
 have h:=Z4k a;generalize opn a=b at h;unfold opn;rw[h];rfl
def RS (x:Aw):Bool:=bif x.Ba==1 then ((x.Payload.length:Nat):Int)==0 else false
theorem Z3P {p:BD} (q:Di p.SN) (z:Di p.Dp) (A:Di p.MD) (C:1<=p.Ak.Ba) (D:p.Ak.Ba<=3) (h6:1<=p.Ak.Payload.length\/p.Ak.Ba=1) (F:p.Ak.Payload.length<=255):FN p=0:=by
 have b:∀{n:Int},Di n->bt n=true:=fun h=>by rcases h with rfl|rfl<;>rfl
 unfold FN Oo;rw[b q,b z,b A,decide_eq_false (by omega),decide_eq_false (by omega),decide_eq_false (by omega)];rcases h6 with h6|h6
 ·rw[beq_false_of_ne (by omega)];rfl
 ·rw[h6];cases (((p.Ak.Payload.length:Nat):Int)==0)<;>rfl
theorem Zf5 {b:BQ} (h:DJ b) (I:b.Open=true):FN (pkt b)=0/\(pkt b).Ak.Payload.length<=251/\CU (pkt b).Ak.Payload/\RS (pkt b).Ak=b.Empty/\Di (pkt b).MD:=by
 obtain⟨z,A,J,D,F⟩:=h;have hm:∀x:Bool,Di (bif x then 1 else 0):=fun x=>by cases x;exact .inl rfl;exact .inr rfl
 unfold pkt;cases G:b.Empty with
 | true=>
  simp only[cond_true];exact⟨Z3P z A (hm _) (Int.le_refl 1) (show (1:Int)<=3 by decide) (.inr rfl) (Nat.zero_le _),Nat.zero_le _,Z3G,rfl,hm _⟩
 | false=>
  simp only[cond_false];cases C:b.BA with
  | nil=>have:=F I G;rw[C]at this;exact absurd this (by decide)
  | cons p q=>
   obtain⟨k1,k2,k3,k4,k5⟩:=D p (by rw[C];exact List.mem_cons_self);refine⟨Z3P z A (hm _) k1 k2 (.inl k3) (by dsimp only;omega),k4,k5,?_,hm _⟩;unfold RS;rw[show (((p.Payload.length:Nat):Int)==0)=false from beq_false_of_ne (by omega)];cases (p.Ba==1)<;>rfl
noncomputable def N7 (s:Cb) (p:BD):BD:=bif s.Gm && !RS p.Ak then { p with Ak:=⟨p.Ak.Ba,Kv s.Key (Jw s (bif s.Bz==1 then 1 else 0)) [IntKind.wrap .u8 p.Ak.Ba] p.Ak.Payload⟩ } else p
theorem v_sel (s:Cb) (p:BD) (C:Eh s.Key) (h:FN p=0) (G:p.Ak.Payload.length<=251) (A:s.Gm=true):Uf s p=some (N7 s p,0):=(AZ _ _).trans (by
 have hb:Bytes [IntKind.wrap .u8 p.Ak.Ba]:=Bytes.cons (r8 _) Bytes.nil;have D:Eh (Jw s (bif s.Bz==1 then 1 else 0)):=b64 _ _ _;have F:=ZbG s.Key C _ D [IntKind.wrap .u8 p.Ak.Ba] p.Ak.Payload hb (by simp) (by omega);have b1:∀z,AV Oy (.b1 s p z)=some ({ p with Ak:=⟨p.Ak.Ba,Kv s.Key (Jw s (bif s.Bz==1 then 1 else 0)) [IntKind.wrap .u8 p.Ak.Ba] p.Ak.Payload⟩ },0):=fun z=>(AZ _ _).trans (by
  rw[show Oy (.b1 s p z)=_ from rfl];simp only[Oy,DN,decide_eq_false (show ¬(((p.Ak.Payload.length:Nat):Int)>251) by omega),cond_false,Zb0,F,Zcc,Option.bind_some,List.length_cons,List.length_nil,Nat.zero_add,beq_self_eq_true,cond_true])
 simp only[Oy,DN,nY,h,Option.bind_some,bne_self_eq_false,cond_false,A,Bool.not_true,Zai,b1];unfold N7 RS;rw[A];cases (bif p.Ak.Ba==1 then ((p.Ak.Payload.length:Nat):Int)==0 else false)<;>rfl)
theorem sV (s:Cb) {p:BD} (h:FN p=0) (C:p.Ak.Payload.length<=251) (hb:CU p.Ak.Payload):FN (N7 s p)=0/\CU (N7 s p).Ak.Payload/\(N7 s p).SN=p.SN/\(N7 s p).MD=p.MD/\RS (N7 s p).Ak=RS p.Ak/\(s.Gm=false->N7 s p=p):=by
 unfold N7;cases hc:(s.Gm && !RS p.Ak) with
 | false=>exact⟨h,hb,rfl,rfl,rfl,fun _=>rfl⟩
 | true=>
  rw[Bool.and_eq_true]at hc;have z:RS p.Ak=false:=by simpa using hc.2
  obtain⟨k1,k2,k3,k4,k5⟩:=OW h;have q:=Zyo s.Key (Jw s (bif s.Bz==1 then 1 else 0)) [IntKind.wrap .u8 p.Ak.Ba] p.Ak.Payload;refine⟨Z3P k1 k2 k3 ?_ ?_ (.inl ?_) ?_,fun x A=>Zro _ _ _ _ x A,rfl,rfl,?_,fun h=>by rw[h]at hc;exact absurd hc.1 (by decide)⟩
  ·show 1<=p.Ak.Ba;omega
  ·show p.Ak.Ba<=3;omega
  ·show 1<=(Kv s.Key (Jw s (bif s.Bz==1 then 1 else 0)) [IntKind.wrap .u8 p.Ak.Ba] p.Ak.Payload).length;omega
  ·show (Kv s.Key (Jw s (bif s.Bz==1 then 1 else 0)) [IntKind.wrap .u8 p.Ak.Ba] p.Ak.Payload).length<=255;omega
  ·rw[z];show (bif p.Ak.Ba==1 then (((Kv s.Key (Jw s (bif s.Bz==1 then 1 else 0)) [IntKind.wrap .u8 p.Ak.Ba] p.Ak.Payload).length:Nat):Int)==0 else false)=false;rw[beq_false_of_ne (show (((Kv s.Key (Jw s (bif s.Bz==1 then 1 else 0)) [IntKind.wrap .u8 p.Ak.Ba] p.Ak.Payload).length:Nat):Int)≠0 by omega)];cases (p.Ak.Ba==1)<;>rfl
theorem xorN (a b:Nat) (A:a<256) (hb:b<256):bits .xor .u8 (a:Int) (b:Int)=((a ^^^ b:Nat):Int):=by
 have h:a ^^^ b<2 ^ 8:=Nat.xor_lt_two_pow (n:=8) A hb;have q : a % 2 ^ 8=a:=Nat.mod_eq_of_lt A;have z : b % 2 ^ 8=b:=Nat.mod_eq_of_lt hb;show IntKind.wrap .u8 (((BitVec.ofInt 8 (a:Int)) ^^^ (BitVec.ofInt 8 (b:Int))).toNat:Int)=_;simp only[BitVec.ofInt_natCast,BitVec.toNat_xor,BitVec.toNat_ofNat,q,z];exact Oq (Int.natCast_nonneg _) (by exact_mod_cast h)
theorem xorB {a b:Int} (z:0<=a/\a<256) (hb:0<=b/\b<256):bits .xor .u8 a (bits .xor .u8 a b)=b:=by
 obtain⟨x,rfl⟩:=Int.eq_ofNat_of_zero_le z.1;obtain⟨y,rfl⟩:=Int.eq_ofNat_of_zero_le hb.1;have q:x<256:=by exact_mod_cast z.2
 have A:y<256:=by exact_mod_cast hb.2
 rw[xorN x y q A,xorN x (x ^^^ y) q (Nat.xor_lt_two_pow (n:=8) q A),<- Nat.xor_assoc,Nat.xor_self,Nat.zero_xor]
theorem xw_xw:∀{s b:List Int},Bytes s->Bytes b->s.length=b.length->xw s (xw s b)=b:=by
 intro s;induction s with
 | nil=>intro b _ _ h;cases b with
  | nil=>rfl
  | cons y b=>simp at h
 | cons x s C=>intro b A hb h;cases b with
  | nil=>simp at h
  | cons y b=>
   have e:xw (x::s) (y::b)=bits .xor .u8 x y::xw s b:=rfl;rw[e,show xw (x::s) (bits .xor .u8 x y::xw s b)=bits .xor .u8 x (bits .xor .u8 x y)::xw s (xw s b) from rfl,xorB (A x List.mem_cons_self) (hb y List.mem_cons_self),C (fun z q=>A z (List.mem_cons_of_mem _ q)) (fun z q=>hb z (List.mem_cons_of_mem _ q)) (by simpa using h)]
theorem ZD9 (xs:List Int) (C:xs.length<=100000):wX xs xs=some true:=(AZ _ _).trans (by
 have key:∀d i:Nat,i+d=xs.length->AV WW (.b1 xs xs (xs.length:Nat) i)=some true:=by
  intro d;induction d with
  | zero=>
   intro i z;obtain rfl:i=xs.length:=by omega
   refine(AZ _ _).trans ?_;simp(disch:=omega) only[WW,Int.lt_irrefl,DN,SL,SM]
  | succ d A=>
   intro i z;have q:i<xs.length:=by omega
   refine(AZ _ _).trans ?_;simp(disch:=omega) only[WW,q,bne_self_eq_false,DN,SL,SM];exact A (i+1) (by omega)
 simp only[WW,bne_self_eq_false,DN,SL,SM];exact key xs.length 0 (by omega))
theorem qZ (r:Int) (xs:List Int):(IC r xs).length=xs.length+3:=by simp[IC,Pm]
theorem Zud (r:Int) {xs:List Int} (h:Bytes xs):Bytes (IC r xs):=Bytes.app h (ZqV (Z3B xs (Nat.mod_lt _ (by decide))))
theorem ZuT (r:Int) (F:0<=r/\r<4294967296) (xs:List Int) (hb:Bytes xs) (G:xs.length<=90000):Z1j r (IC r xs)=some (xs,0):=(AZ _ _).trans (by
 have q:((IC r xs).length:Int)=(xs.length:Int)+3:=by rw[qZ];omega
 have z:AP (((IC r xs).length:Int) - 3)=(xs.length:Int):=by rw[q,Fq (by omega) (by omega)];omega
 have A:((IC r xs).drop 0).take (Int.toNat (xs.length:Int) - 0)=xs:=by
  rw[Int.toNat_natCast,Nat.sub_zero,List.drop_zero];exact List.take_left
 have C:decide ((0:Int)<=(xs.length:Int)/\(xs.length:Int)<=((IC r xs).length:Int))=true:=decide_eq_true ⟨by omega,by omega⟩;have D:decide ((xs.length:Int)<0)=false:=decide_eq_false (by omega);simp only[Z9R,DN,z,A,C,D,cond_true,cond_false,Z92 r F xs hb (by omega),Option.bind_some,ZD9 (IC r xs) (by rw[qZ];omega),Bool.not_true,ZdY xs (by omega),beq_self_eq_true])
theorem Z49 (j a:Int) (q:0<=j):We j a=some (AP (bits .and .u8 (Int.fdiv a (2 ^ (min (Int.toNat j) (IntKind.bits .u8)))) 1)):=(AZ _ _).trans (by
 simp only[Z63,DN,decide_eq_true q,cond_true])
theorem ZDc {p:BD} (h:FN p=0):Int.fdiv (hdv p) (2 ^ 5)=0/\AP (bits .and .u8 (hdv p) 3)=p.Ak.Ba/\AP (bits .and .u8 (Int.fdiv (hdv p) (2 ^ (min (Int.toNat 3) (IntKind.bits .u8)))) 1)=p.SN /\
  AP (bits .and .u8 (Int.fdiv (hdv p) (2 ^ (min (Int.toNat 2) (IntKind.bits .u8)))) 1)=p.Dp/\AP (bits .and .u8 (Int.fdiv (hdv p) (2 ^ (min (Int.toNat 4) (IntKind.bits .u8)))) 1)=p.MD:=by
 obtain⟨h1,h2,h3,h4,-⟩:=OW h;unfold hdv;rcases h1 with h1|h1<;>rcases h2 with h2|h2<;>rcases h3 with h3|h3<;>rcases h4 with h4|h4|h4<;>rw[h1,h2,h3,h4]<;>exact⟨by decide +kernel,by decide +kernel,by decide +kernel,by decide +kernel,by decide +kernel⟩
theorem ZDm {p:BD} (h:FN p=0):p.Ak.Ba≠0/\(p.Ak.Payload.length=0->p.Ak.Ba=1):=by
 obtain⟨q,A,C,D,G⟩:=OW h;refine⟨by omega,fun F=>?_⟩;rcases D with e|e|e
 ·exact e
 all_goals
  exfalso;unfold FN Oo at h;have z:(((p.Ak.Payload.length:Nat):Int)==0)=true:=by rw[F];rfl
  rw[z,e]at h;rcases q with q1|q1<;>rcases A with q2|q2<;>rcases C with q3|q3<;>rw[q1,q2,q3]at h<;>exact absurd (show (1:Int)=0 from h) (by decide)
theorem ZAp (p:BD) (h:FN p=0):Z7 (hdv p::((p.Ak.Payload.length:Nat):Int)::p.Ak.Payload)=some (p,0):=(AZ _ _).trans (by
 obtain⟨k1,k2,k3,k4,k5⟩:=ZDc h;have N:=(OW h).2.2.2.2;obtain⟨n1,M⟩:=ZDm h;generalize hb:(hdv p::((p.Ak.Payload.length:Nat):Int)::p.Ak.Payload)=b;have A:b.length=p.Ak.Payload.length+2:=by rw[<- hb];rfl
 have G:(b[Int.toNat 0]? : Option Int)=some (hdv p):=by rw[<- hb];rfl
 have I:(b[Int.toNat 1]? : Option Int)=some ((p.Ak.Payload.length:Nat):Int):=by rw[<- hb];rfl
 have C:AP ((b.length:Int) - 2)=((p.Ak.Payload.length:Nat):Int):=by rw[Fq (by omega) (by omega)];omega
 have D:AP ((p.Ak.Payload.length:Nat):Int)=((p.Ak.Payload.length:Nat):Int):=Fq (by omega) (by omega);have F:(b.drop (Int.toNat 2)).take (b.length - Int.toNat 2)=p.Ak.Payload:=by
  rw[A,<- hb];show p.Ak.Payload.take _=_;exact List.take_of_length_le (by simp)
 have b2:∀z,AV kZ (.b2 b ((p.Ak.Payload.length:Nat):Int) p.Ak.Ba z (hdv p))=some (p,0):=fun z=>(AZ _ _).trans (by
  have q:=gK [p.Ak.Payload] (by simp;omega) (by simp);rw[show [p.Ak.Payload].flatten=p.Ak.Payload by simp]at q;simp only[kZ,DN,C,Int.lt_irrefl,gt_iff_lt,decide_false,cond_false,Z49 3 _ (by decide),Z49 2 _ (by decide),Z49 4 _ (by decide),k3,k4,k5,Option.bind_some,F,decide_eq_true (show (0:Int)<=2/\(2:Int)<=(b.length:Int) from⟨by decide,by omega⟩),cond_true,List.length_cons,List.length_nil,Nat.zero_add,beq_self_eq_true,q])
 simp only[kZ,DN,G,I,Option.bind_some,decide_eq_false (show ¬((b.length:Int)<2) by omega),decide_eq_true (show (0:Int)<=0/\(0:Int)<(b.length:Int) from⟨by decide,by omega⟩),decide_eq_true (show (0:Int)<=1/\(1:Int)<(b.length:Int) from⟨by decide,by omega⟩),cond_true,cond_false,k1,k2,bne_self_eq_false,beq_false_of_ne n1,D,b2];cases J:(((p.Ak.Payload.length:Nat):Int)==0) with
 | false=>rfl
 | true=>
  have:=M (by simpa using J);rw[this];rfl)
noncomputable def wire (c r:Int) (p:BD):List Int:=xw (Ib (JG c) (IC r (dev p).1).length) (IC r (dev p).1)
theorem ZfF {p:BD} (h:FN p=0):(dev p).1=hdv p::((p.Ak.Payload.length:Nat):Int)::p.Ak.Payload:=by unfold dev;rw[if_pos h]
theorem ZcK {p:BD} (h:FN p=0) (hb:CU p.Ak.Payload):Bytes (dev p).1/\(dev p).1.length<=257:=by
 obtain⟨q,z,A,C,D⟩:=OW h;rw[ZfF h];exact⟨Bytes.cons (by unfold hdv;omega) (Bytes.cons (by omega) hb),by simp only[List.length_cons];omega⟩
theorem Zec (l:A8) (c:Int) (hc:Nr l=some c) (p:BD) (h:FN p=0) (hb:CU p.Ak.Payload) (C:R32 l.Bl.FQ):UR l (wire c l.Bl.FQ p)=some (p,0):=(AZ _ _).trans (by
 obtain⟨k1,k2⟩:=ZcK h hb;have A:=qZ l.Bl.FQ (dev p).1;have D:(wire c l.Bl.FQ p).length=(IC l.Bl.FQ (dev p).1).length:=ZeT (Rt _ _);have q:=Z7G c (wire c l.Bl.FQ p) (by omega);rw[D,show xw (Ib (JG c) (IC l.Bl.FQ (dev p).1).length) (wire c l.Bl.FQ p)=IC l.Bl.FQ (dev p).1 from xw_xw (Zc5 (Z2t c) _) (Zud _ k1) (Rt _ _)]at q;have z:=ZuT l.Bl.FQ C _ k1 (by omega);rw[ZfF h]at z q;simp only[Z8m,DN,hc,q,z,Option.bind_some,bne_self_eq_false,cond_false,ZAp p h])
theorem ZAD {x y:A8} (q:x.Bl=y.Bl) (z:x.Event=y.Event) (A:x.Last=y.Last):QR x=QR y:=(AZ _ _).trans (Eq.trans (by simp only[mO,DN,q,z,A]) (AZ _ _).symm)
theorem ZyK {x y:A8} (q:x.Bl=y.Bl) (z:x.Event=y.Event) (A:x.Last=y.Last):Nr x=Nr y:=(AZ _ _).trans (Eq.trans (by simp only[ZJ,DN,q,z,A]) (AZ _ _).symm)
noncomputable def F6 (l:A8):A8:={ moveF l with More:=((pkt (opn (moveF l).Az)).MD==1),Az:=opn (moveF l).Az }
noncomputable def Hr (l:A8):BD:=N7 (moveF l).DY (pkt (opn (moveF l).Az))
theorem Zfb {k:Int} {l:A8} (h:BO k l) (h0:0<=k) (h1:k<=100000) (hr:l.Bd=0):∃c,Nr l=some c/\PD l=some (F6 l,wire c l.Bl.FQ (Hr l))/\DJ (opn (moveF l).Az):=by
 have J:∀c∈l.BC,CV c:=h.2.2.2.2.2.1;have I:l.BC.length<=100000:=by have:=h.2.2.2.2.1;omega
 have C:=ZeL l J I (gJ h.1);obtain⟨l2,A,q⟩:=Z12 k l h h0 (by omega);rw[C]at A;cases A;have hq:=q.1.2.2.1;have O:=Zfw (moveF l).Az (by omega);obtain⟨r,D,Q,r2,r3⟩:=Z2b (moveF l).Az q.1;rw[O]at D;cases D;obtain⟨p1,p2,p3,p4,p5⟩:=Zf5 Q (Z4k _);obtain⟨q1,q2,q3,q4,q5,q6⟩:=sV (moveF l).DY p1 p2 p3;obtain⟨c,S,Y⟩:=Zes (l:=l) h.2.2.2.1 h.2.2.2.2.2.2.2.1;refine⟨c,S,?_,Q⟩;obtain⟨k1,k2⟩:=ZcK q1 q2;have b1:∀z,AV Nz (.b1 (F6 l) z (Hr l))=some (F6 l,wire c l.Bl.FQ (Hr l)):=fun z=>(AZ _ _).trans (by
  have G : QR (F6 l)=some c:=(ZAD (x:=F6 l) (y:=l) rfl rfl rfl).trans Y;have N:=qZ l.Bl.FQ (dev (Hr l)).1;have w2:=Zam c (IC l.Bl.FQ (dev (Hr l)).1) (by have:(dev (Hr l)).1.length<=257:=k2;omega);have x1:Xo (F6 l).Bl.FQ (dev (Hr l)).1=some (IC l.Bl.FQ (dev (Hr l)).1):=Z9x _ h.2.2.2.1.2.1 _ k1 (by have:(dev (Hr l)).1.length<=257:=k2;omega);simp only[Nz,DN,kL,Z9s,G,x1,w2,Option.bind_some,beq_self_eq_true,cond_true];rfl)
 have hv:(moveF l).DY.Gm=true->Uf (moveF l).DY (pkt (opn (moveF l).Az))=some (Hr l,0):=fun F=>v_sel _ _ q.2.2.1.1 p1 p2 F;refine(AZ _ _).trans ?_;have M : (l.Bd != 0)=false:=by rw[hr];rfl
 simp only[Nz,DN,M,cond_false,C,O,Option.bind_some];cases F:(moveF l).DY.Gm with
 | false=>
  have e:Hr l=pkt (opn (moveF l).Az):=q6 F;have:=b1 Dk;rw[e]at this;rw[e];exact this
 | true=>
  rw[hv F];exact b1 Dk
theorem Zdj (l:A8):F6 (F6 l)=F6 l/\Hr (F6 l)=Hr l:=by
 have e:moveF (F6 l)=F6 l:=Zv3 l _ _ (opn_q _);have o:opn (F6 l).Az=(F6 l).Az:=Zeg _;constructor
 ·rw[F6,e,o];rfl
 ·rw[Hr,e,o];rfl
theorem Zdh {l:A8} (q:l.Bd≠0):PD l=some (l,[]):=(AZ _ _).trans (by
 have h:(l.Bd != 0)=true:=by simpa using q
 simp only[Nz,DN,h,cond_true,List.length_nil,beq_self_eq_true])
structure Rep (l:A8) (c:Int) (w:List Int):Prop where
 snd:PD l=some (F6 l,w)
 again:PD (F6 l)=some (F6 l,w)
 p1:UR l w=some (Hr l,0)
 p2:UR (F6 l) w=some (Hr l,0)
 blank:QM (Hr l).Ak=some (F6 l).Az.Empty
 arq:∃q,SA (F6 l).Az=some q/\q.2.SN=(Hr l).SN/\(l.DY.Gm=false->q.2=Hr l)
 len:(Hr l).Ak.Payload.length<=1000
theorem ZF9 {k:Int} {l:A8} (h:BO k l) (A:0<=k) (I:k<=100000) (M:l.Bd=0):∃c w,Rep l c w:=by
 obtain⟨c,D,F,Q⟩:=Zfb h A I M;obtain⟨y,O,C,y3,-⟩:=Z2e k l h A (by omega);rw[F]at O;cases O;obtain⟨q,z,G,-⟩:=Zfb C A I M;have S:q = c:=by
  have e:Nr (F6 l)=Nr l:=ZyK rfl rfl rfl;rw[e,D]at z;exact(Option.some.inj z).symm
 subst S;rw[(Zdj l).1,(Zdj l).2]at G;obtain⟨p1,p2,p3,p4,p5⟩:=Zf5 Q (Z4k _);obtain⟨q1,q2,q3,q4,q5,q6⟩:=sV (moveF l).DY p1 p2 p3;have J:R32 l.Bl.FQ:=h.2.2.2.1.2.1;have N:=Zfw (F6 l).Az (by have:(F6 l).Az.BA.length<=64:=C.1.2.2.1;omega);have Y:opn (F6 l).Az=(F6 l).Az:=Zeg _;rw[Y]at N;refine⟨q,_,F,G,Zec l q D _ q1 q2 J,Zec (F6 l) q z _ q1 q2 J,?_,⟨_,(Zcz _ (gJ C.1)).trans N,?_,fun ht=>?_⟩,?_⟩
 ·rw[Z33];exact congrArg some (q5.trans p4)
 ·exact q3.symm
 ·exact(q6 ht).symm
 ·have:=(OW q1).2.2.2.2;show (N7 (moveF l).DY (pkt (opn (moveF l).Az))).Ak.Payload.length<=1000;omega
theorem ZbY:∀(k:Int) (p0:A8),BO k p0->0<=k->k<=1000000->∃r,pR p0=some r/\r=p0:=by
 refine fun k p0 D F G=>BG (fun(p:aV)=>match p with | .b0 z=>BO k z/\z=p0) (fun(p:aV)=>(0,0,0)) ?_ _ ?_
 all_goals try (intro p hp;cases p)
 case' b0=>
  dsimp only at hp;have q:=hp
  try dsimp only[BO,DJ,BK,DW,CG,Ef,Em,EN]at q
  simp only[Z1Y];obtain⟨C,rfl⟩:=hp
  repeat' first|(refine EM ?_;rfl)|(refine Dw ?_ ?_)|(refine Ar (ZjT _ (by omega) (by grind)) (fun(v:List Aw) hm A=>?_);subst A)
 all_goals
  try dsimp only at hp
  try exact False.elim hp
  try have q:=hp
  try dsimp only[BO,DJ,BK,DW,CG,Ef,Em,EN]at q
  try (repeat with_reducible (have I:=And.left hp;replace hp:=And.right hp))
  try simp only[Z1Y]
  try dsimp only
  repeat' first|(refine EM ?_;dsimp only;try simp(disch:=omega) only[Bo,Bh,List.nil_append,List.drop_zero])|(refine EG (fun h=>?_) (fun h=>?_)<;>(try simp only[Fg,reduceCtorEq]at h;try simp(disch:=omega) only[Bo]at h))|refine Dw ?_ ?_|refine Gq ?_|with_reducible apply And.intro|rfl|assumption|exact True.intro|omega|exact decide_eq_true (GM _).1|exact GI (by assumption) (by omega)|exact Gp (by assumption) (by omega)|(refine FV.2 ?_;first|omega|grind)|(apply GX;first|omega|(simp only[Bh];omega))|(simp only[ED,Bh,Cf,maxLen_eq,kL,kA]<;>omega)|(simp(disch:=omega) only[Bo,decide_eq_true_eq,bne_iff_ne,ne_eq];(repeat' split)<;>omega)|(simp[D8,Ez];done)|grind|(simp only[ED,Bh,Cf,maxLen_eq,kL,kA]<;>grind)|grind [Di]
theorem ZgU:∀(M:Iy),EN M->∃r,Z5R M=some r/\r=true:=by
 refine fun M h0=>BG (fun(p:WT)=>match p with | .b0 C=>EN C | .b1 C N D=>(QM D.Ak=some N.Az.Empty/\(∃q,SA N.Az=some q/\q.2.SN=D.SN/\(C.DY.Gm=false->q.2=D))/\UG D.Ak D.Ak=some true)) (fun(p:WT)=>match p with | .b0 ..=>(0,0,1) | .b1 ..=>(0,0,0)) ?_ _ ?_
 all_goals try (intro p hp;cases p)
 case' b0 C=>
  dsimp only at hp;have A:=hp
  try dsimp only[BO,DJ,BK,DW,CG,Ef,Em,EN]at A
  simp only[jQ];clear A;refine NM (a:=true) rfl ?_;refine EG (fun h=>absurd h (by decide)) (fun _=>?_);refine Ar (ZkM C hp) (fun(v:A8×Int×Bool) hm hv=>?_);refine EG (fun h=>EM rfl) (fun h=>?_);have G:BO 20000 v.1:=hv (by simpa using h);refine Ar (ZbY 20000 _ G (by omega) (by omega)) (fun(w:A8) hm J=>?_);subst J;obtain⟨y,h1,I,O,h4,h5⟩:=ZeO G (by omega) (by omega);refine NM h1 ?_;refine Ar (ZbY 20000 _ O (by omega) (by omega)) (fun(w:A8) hm J=>?_);subst J;obtain⟨z,k1,k2,k3,k4,k5⟩:=ZeO O (by omega) (by omega);refine NM k1 ?_
  by_cases F:v.1.Bd=0
  ·obtain⟨c,w,R⟩:=ZF9 G (by omega) (by omega) F;rw[R.snd]at I;cases I;rw[R.again]at k2;cases k2;have hb:=Zal (Hr v.1).Ak (GX _ (by have:=R.len;omega));refine EG (fun h=>absurd F (by simpa using h)) (fun _=>?_);refine NM R.p1 (NM R.p2 ?_);refine EG (fun h=>nomatch (show false=true from h)) (fun _=>?_);refine EG (fun h=>nomatch (show false=true from h)) (fun _=>?_);refine EG (fun h=>absurd h (by simp)) (fun _=>?_);refine NM hb ?_;refine EG (fun h=>absurd h (by decide)) (fun _=>?_);exact EM ⟨⟨R.blank,R.arq,hb⟩,FV.2 (by omega)⟩
  ·rw[Zdh F]at I;cases I;rw[Zdh F]at k2;cases k2;refine EG (fun _=>?_) (fun h=>absurd (by simpa using h) F);refine EG (fun _=>?_) (fun h=>nomatch (show true=false from h));refine EG (fun _=>?_) (fun h=>nomatch (show true=false from h));exact NM (Zzv v.1 (G.lwf (by omega))) (EM rfl)
 case' b1=>
  dsimp only at hp;have A:=hp
  try dsimp only[BO,DJ,BK,DW,CG,Ef,Em,EN]at A
  simp only[jQ];obtain⟨Q,⟨q,S,Y,g4⟩,g5⟩:=hp;clear A;refine NM Q ?_;refine EG (fun h=>absurd h (by simp)) (fun _=>?_);refine NM S ?_;refine EG (fun _=>?_) (fun h=>absurd h (by simp[Y]));refine EG (fun _=>EM rfl) (fun h=>?_);rw[g4 h];exact NM g5 (EM rfl)
 all_goals
  try dsimp only at hp
  try exact False.elim hp
  try have A:=hp
  try dsimp only[BO,DJ,BK,DW,CG,Ef,Em,EN]at A
  try (repeat with_reducible (have hq:=And.left hp;replace hp:=And.right hp))
  try simp only[jQ]
  try dsimp only
  repeat' first|(refine EM ?_;dsimp only;try simp(disch:=omega) only[Bo,Bh,List.nil_append,List.drop_zero])|(refine EG (fun h=>?_) (fun h=>?_)<;>(try simp only[Fg,reduceCtorEq]at h;try simp(disch:=omega) only[Bo]at h))|refine Dw ?_ ?_|refine Gq ?_|with_reducible apply And.intro|rfl|assumption|exact True.intro|omega|exact decide_eq_true (GM _).1|exact GI (by assumption) (by omega)|exact Gp (by assumption) (by omega)|(refine FV.2 ?_;first|omega|grind)|(apply GX;first|omega|(simp only[Bh];omega))|(simp only[ED,Bh,Cf,maxLen_eq,kL,kA]<;>omega)|(simp(disch:=omega) only[Bo,decide_eq_true_eq,bne_iff_ne,ne_eq];(repeat' split)<;>omega)|(simp[D8,Ez];done)|grind|(simp only[ED,Bh,Cf,maxLen_eq,kL,kA]<;>grind)|grind [Di]
end Go.Proofs.YtjodhcdmhobmoaaGreatDoor
