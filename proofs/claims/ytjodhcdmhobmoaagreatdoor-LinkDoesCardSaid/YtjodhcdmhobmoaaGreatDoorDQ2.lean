/- A part of it. -/
import Derived.Test.YtjodhcdmhobmoaaGreatDoorDQ1
import Derived.Test.YtjodhcdmhobmoaaGreatDoorDF3
import Derived.Laws.BitsAllLaws
set_option linter.unusedVariables false
set_option linter.unusedSimpArgs false
namespace Go.Proofs.YtjodhcdmhobmoaaGreatDoor
open Go Go.Proofs.YtjodhcdmhobmoaaGreatDoor.Le
set_option linter.defProp false
set_option maxRecDepth 100000
set_option maxHeartbeats 40000000
theorem Q4:(∀(C:Fa),Jo C->∃r,Z15 C=some r/\True) /\
  (∀(C:Fa) (G F:Int),Jo C->∃r,oL C G F=some r/\True) /\
  (∀(C G:Int) (F I:List Int),F.length<=100000->I.length<=100000->∃r,Z2c C G F I=some r/\r.length=I.length+4/\Ci r) /\
  (∀(C:A7) (G F:Int),BM C->R16 G->∃r,Z1K C G F=some r/\BM r.1/\r.2.length<=8/\FB r.2) /\
  (∀(C:A7) (G:AL) (F I:Int),BM C->Bj G->R16 F->∃r,nH C G F I=some r/\BM r.1/\r.2.1.length<=1/\FB r.2.1) /\
  (∀(C G F I:Int),Bv F->Bv I->∃r,bJ C G F I=some r/\Gt r) /\
  (∀(C G:Int) (F I:List Int),F.length<=65536->I.length<=65536->∃r,Z28 C G F I=some r/\r.1.length<=65536/\Ci r.1) /\
  (∀(C:A7) (G:AL) (F I:Int),BM C->Bj G->∃r,Z10 C G F I=some r/\BM r.1/\r.2.1.length<=8/\FB r.2.1/\r.2.2.length<=1):=by
 refine⟨fun C M=>BK (fun(p:Y9)=>match p with | .b0 q=>Jo q | .b1 q=>Jo q | .b2 q=>Jo q) (fun(p:Y9)=>match p with | .b0 ..=>(0,0,2) | .b1 ..=>(0,0,1) | .b2 ..=>(0,0,0)) ?_ _ ?_,
  fun C G F M=>BK (fun(p:Yx)=>match p with | .b0 q _ _=>Jo q) (fun(p:Yx)=>(0,0,0)) ?_ _ ?_,
  fun C G F I M N=>BK (fun(p:Yl)=>match p with | .b0 _ _ A z=>z=I/\A.length<=100000/\z.length<=100000) (fun(p:Yl)=>(0,0,0)) ?_ _ ?_,
  fun C G F M N=>BK (fun(p:Y7)=>match p with | .b0 q J _=>BM q/\R16 J | .b1 q _ A z _=>A.length<=8/\FB A/\BM z/\A.length+z.Aa.length<=8/\R16 q | .b2 q _ A z _=>A.length<=8/\FB A/\BM z/\A.length+z.Aa.length<=8/\0<z.Aa.length/\R16 q | .b3 q J _=>q.length<=8/\FB q/\BM J | .b4 q _ A z _ Q=>A.length<=8/\FB A/\BM z/\CV Q/\A.length+z.Aa.length<=7/\R16 q) (fun(p:Y7)=>match p with | .b0 ..=>(1,0,0) | .b1 _ _ _ z _=>(0,z.Aa.length,2) | .b2 _ _ _ z _=>(0,z.Aa.length,1) | .b3 ..=>(0,0,0) | .b4 _ _ _ z _ _=>(0,z.Aa.length,3)) ?_ _ ?_,
  fun C G F I M N Y=>BK (fun(p:Xu)=>match p with | .b0 q J A _=>BM q/\Bj J/\R16 A | .b1 q _=>BM q | .b2 q _ A z _=>BM A/\CV z/\R16 q | .b3 q _ A z _=>BM A/\CV z/\R16 q | .b4 q J _=>BM q/\CV J) (fun(p:Xu)=>match p with | .b0 ..=>(0,0,2) | .b2 ..=>(0,0,1)|_=>(0,0,0)) ?_ _ ?_,
  fun C G F I M N=>BK (fun(p:bT)=>match p with | .b0 _ _ A z=>Bv A/\Bv z) (fun(p:bT)=>(0,0,0)) ?_ _ ?_,
  fun C G F I M N=>BK (fun(p:aB)=>match p with | .b0 _ _ A z=>A.length<=65536/\z.length<=65536) (fun(p:aB)=>(0,0,0)) ?_ _ ?_,
  fun C G F I M N=>BK (fun(p:Xe)=>match p with | .b0 q J _ _=>BM q/\Bj J | .b1 _ _ A z _=>BM A/\Bj z | .b2 _ _ A z _=>BM A/\Bj z | .b3 q _=>BM q | .b4 _ J A _=>BM J/\Bj A | .b5 _ _ A z _=>BM A/\Bj z | .b6 q J _=>BM q/\Bj J | .b7 _ _ A z _=>BM A/\Bj z | .b8 q J _=>BM q/\Bj J | .b9 q J _=>BM q/\Bj J) (fun(p:Xe)=>match p with | .b0 ..=>(0,0,4) | .b2 ..=>(0,0,3) | .b5 ..=>(0,0,2) | .b7 ..=>(0,0,1)|_=>(0,0,0)) ?_ _ ?_⟩
 all_goals try (intro p hp;cases p)
 all_goals
  try dsimp only at hp
  try exact False.elim hp
  try have S:=hp
  try dsimp only[BQ,DX,BM,D5,CO,Eo,Eu,ES]at S
  try (repeat with_reducible (have hq:=And.left hp;replace hp:=And.right hp))
  try simp only[Zad,Zb7,Zb0,Za0,ND,Z2G,ZbC,Z94]
  try dsimp only
  repeat' first|(refine Ea ?_;dsimp only;try simp(disch:=omega) only[Bo,Bh,List.nil_append,List.drop_zero])|(refine FM (fun h=>?_) (fun h=>?_)<;>(try simp only[Fj,reduceCtorEq]at h;try simp(disch:=omega) only[Bo]at h))|refine Dl ?_ ?_|refine Gl ?_|refine Az (ZjO _) fun(v:Int) hm D=>?_|refine Az (Ztw _) fun(v:Int) hm D=>?_|refine Az (Z8T _ _ _) fun(v:Bool) hm D=>?_|refine Az (Zxm _ _ _) fun(v:Int) hm D=>?_|refine Az (Z9C _) fun(v:Int) hm D=>?_|refine Az (Z90 _ _) fun(v:Int) hm D=>?_|refine Az (ZuA _ _) fun(v:Int) hm D=>?_|refine Az (Zrk _ _) fun(v:Int) hm D=>?_|refine Az (Zqm _ _ _ ?_ ?_) fun(v:(List Int)) hm D=>?_|refine Az (Zx0 _ _ ?_) fun(v:PD) hm D=>?_|refine Az (ZyK _ _ _ _ ?_ ?_) fun(v:(List Int)) hm D=>?_|refine Az (Zyj _ _ ?_ ?_) fun(v:Bool) hm D=>?_|refine Z31 ?_ fun v D=>?_|refine Az (Zsy _ _ _ _ ?_ ?_ ?_) fun(v:(A7×AL)) hm D=>?_|refine Az (Zlu _) fun(v:Bool) hm D=>?_|refine Az (ZpS _ _ ?_ ?_) fun(v:AL) hm D=>?_|refine Az (Z18 _ ?_) fun(v:Int) hm D=>?_|refine Az (Zni _ _ ?_) fun(v:Bool) hm D=>?_|refine Az (ZoJ _ _ _ (by rfl) (by decide +kernel) ?_) fun(v:Int) hm D=>?_|refine Az (Zwv _ _ ?_ ?_) fun(v:Bool) hm D=>?_|refine Az (U2 _) fun(v:Bl) hm D=>?_|refine Az (Z2l _) fun(v:(List AL)) hm D=>?_|refine Az (ZhM _ _ _ _ ?_ ?_) fun(v:A7) hm D=>?_|refine Az (Zk0 _ _ _ ?_ ?_) fun(v:(A7×(List AL)×(List BD))) hm D=>?_|refine Az (Zi8 _ _ ?_ ?_) fun(v:(A7×(List AL)×(List BD))) hm D=>?_|refine Az (ZiY _ _ _ ?_ ?_) fun(v:(A7×(List AL)×(List BD))) hm D=>?_|refine Az (ZiR _ _ ?_ ?_) fun(v:(A7×(List AL)×(List BD))) hm D=>?_|refine Az (ZkA _ _ ?_ ?_) fun(v:(A7×(List AL)×(List BD))) hm D=>?_|with_reducible apply And.intro|rfl|assumption|exact True.intro|omega|exact decide_eq_true (GN _).1|exact GL (by assumption) (by omega)|exact Gj (by assumption) (by omega)|(refine FY.2 ?_;first|omega|grind)|(apply Gh;first|omega|(simp only[Bh];omega))|(simp only[Dy,Bh,Cb,maxLen_eq,kL,kA]<;>omega)|(simp(disch:=omega) only[Bo,decide_eq_true_eq,bne_iff_ne,ne_eq];(repeat' split)<;>omega)|(simp[D8,Ey];done)|grind|(simp only[Dy,Bh,Cb,maxLen_eq,kL,kA]<;>grind)|grind [EI]
def Ztf:=Q4.1
def ZvA:=Q4.2.1
def Zva:=Q4.2.2.1
def ZsN:=Q4.2.2.2.1
def Zrl:=Q4.2.2.2.2.1
def ZcF:=Q4.2.2.2.2.2.1
def Zw5:=Q4.2.2.2.2.2.2.1
def Zqr:=Q4.2.2.2.2.2.2.2
theorem Q5:(∀(C:Int) (D:Fa) (I S Y p5:Int),Jo D->Bv S->Bv Y->∃r,qG C D I S Y p5=some r/\((r.2=0->BQ 0 r.1))) /\
  (∀(k:Int) (C:Ac),BQ k C->0<=k->k<=1000000->∃r,kZ C=some r/\True) /\
  (∀(C:Cm) (D:Be),Gt C->CO D.BU->∃r,Z2b C D=some r/\(CO r.1.BU/\(r.2=0->r.1.BU.Payload.length<=255))) /\
  (∀(k:Int) (C:Ac) (D:Int),BQ k C->0<=k->k<=900000->∃r,mW C D=some r/\BQ (k+8) r.1) /\
  (∀(k:Int) (C:Ac) (D:AL) (I:Int),BQ k C->Bj D->0<=k->k<=1000000->∃r,Jz C D I=some r/\BQ (k+1) r.1) /\
  (∀(k:Int) (C:Ac) (D:Int),BQ k C->0<=k->k<=1000000->Bv D->∃r,pM C D=some r/\BQ (k+2) r.1) /\
  (∀(C:Cm) (D:Be),Gt C->CO D.BU->∃r,Z2a C D=some r/\CO r.1.BU) /\
  (∀(k:Int) (C:Ac) (D:List Int) (I:Int),BQ k C->0<=k->k<=1000000->D.length<=65536->Ci D->∃r,Z0v C D I=some r/\BQ (k+8) r.1/\r.2.length<=1):=by
 refine⟨fun C D I S Y p5 J M N=>BK (fun(p:bV)=>match p with | .b0 _ A _ G O _=>Jo A/\Bv G/\Bv O | .b2 q _ F G _ Q _=>Jo Q/\EI q/\Bv F/\Bv G | .b4 q _ F G _ Q _=>Jo Q/\EI q/\Bv F/\Bv G|_=>True) (fun(p:bV)=>match p with | .b0 ..=>(0,0,2) | .b2 ..=>(0,0,1)|_=>(0,0,0)) ?_ _ ?_,
  fun k C J M N=>BK (fun(p:XK)=>match p with | .b0 q=>BQ k q) (fun(p:XK)=>(0,0,0)) ?_ _ ?_,
  fun C D J M=>BK (fun(p:aJ)=>match p with | .b0 q A=>Gt q/\CO A.BU | .b1 q A _=>Gt q/\CO A.BU) (fun(p:aJ)=>match p with | .b0 ..=>(0,0,1) | .b1 ..=>(0,0,0)) ?_ _ ?_,
  fun k C D J M N=>BK (fun(p:YP)=>match p with | .b0 q _=>BQ k q | .b1 _ _ F _=>BQ k F | .b2 _ _ F _=>BQ k F | .b3 _ _ _ G _=>BQ k G | .b4 _ _ F _=>BQ k F | .b5 _ A F G O _ _=>A.length<=4/\F.length<=1/\FQ F/\BQ k O/\(A.length:Int)=G/\0<=G/\G<=(F.length:Int) | .b6 q _ F _=>q.length<=4/\BQ (k+8) F | .b7 q A _=>q.length<=4/\BQ (k+8) A | .b8 _ A _ G _=>A.length<=4/\BQ (k+8) G | .b9 q A _=>q.length<=4/\BQ (k+8) A) (fun(p:YP)=>match p with | .b0 ..=>(9,0,0) | .b1 ..=>(8,0,0) | .b2 ..=>(7,0,0) | .b3 ..=>(6,0,0) | .b4 ..=>(5,0,0) | .b5 _ _ F G _ _ _=>(4,((F.length:Int) - G).toNat,0) | .b6 ..=>(1,0,0) | .b8 ..=>(3,0,0)|_=>(2,0,0)) ?_ _ ?_,
  fun k C D I J M N h3=>BK (fun(p:Y3)=>match p with | .b0 q A _=>BQ k q/\Bj A) (fun(p:Y3)=>(0,0,0)) ?_ _ ?_,
  fun k C D J M N h3=>BK (fun(p:bY)=>match p with | .b0 q A=>BQ k q/\Bv A | .b1 q A _=>BQ k A/\Bv q) (fun(p:bY)=>match p with | .b0 ..=>(0,0,1) | .b1 ..=>(0,0,0)) ?_ _ ?_,
  fun C D J M=>BK (fun(p:aT)=>match p with | .b0 q A=>Gt q/\CO A.BU | .b1 q A _=>Gt q/\CO A.BU) (fun(p:aT)=>match p with | .b0 ..=>(0,0,1) | .b1 ..=>(0,0,0)) ?_ _ ?_,
  fun k C D I J M N h3 h4=>BK (fun(p:XP)=>match p with | .b0 q A _=>BQ k q/\A.length<=65536/\Ci A | .b1 q A _ G=>q.length<=1/\BQ (k+8) A/\BM G | .b2 q A _=>q.length<=1/\BQ (k+8) A) (fun(p:XP)=>match p with | .b0 ..=>(0,0,2) | .b1 ..=>(0,0,1) | .b2 ..=>(0,0,0)) ?_ _ ?_⟩
 all_goals try (intro p hp;cases p)
 all_goals
  try dsimp only at hp
  try exact False.elim hp
  try have hx:=hp
  try dsimp only[BQ,DX,BM,D5,CO,Eo,Eu,ES]at hx
  try (repeat with_reducible (have hq:=And.left hp;replace hp:=And.right hp))
  try simp only[Zcl,Z7Q,Zax,Z9X,Z1e,dF,Zbr,Z8y]
  try dsimp only
  repeat' first|(refine Ea ?_;dsimp only;try simp(disch:=omega) only[Bo,Bh,List.nil_append,List.drop_zero])|(refine FM (fun h=>?_) (fun h=>?_)<;>(try simp only[Fj,reduceCtorEq]at h;try simp(disch:=omega) only[Bo]at h))|refine Dl ?_ ?_|refine Gl ?_|refine Az (Ztf _ ?_) fun(v:Int) hm z=>?_|refine Az (Zti _ _) fun(v:Ot) hm z=>?_|refine Az (ZxQ) fun(v:Bd) hm z=>?_|refine Az (ZbF _) fun(v:Du) hm z=>?_|refine Az (ZwJ _ _ _ ?_) fun(v:A7) hm z=>?_|refine Az (ZrG) fun(v:(List BC)) hm z=>?_|refine Az (ZvA _ _ _ ?_) fun(v:(Int×Int)) hm z=>?_|refine Az (nU _) fun(v:Int) hm z=>?_|refine Az (Z1q _) fun(v:Bool) hm z=>?_|refine Az (ZsF _ _ _ ?_) fun(v:Int) hm z=>?_|refine Az (Zva _ _ _ _ ?_ ?_) fun(v:(List Int)) hm z=>?_|refine Az (Zut _ _) fun(v:Be) hm z=>?_|refine Az (Z9w k _ ?_ ?_ ?_) fun(v:Bool) hm z=>?_|refine Az (Zu0 _) fun(v:(Du×Int)) hm z=>?_|refine Az (Zqq _ _) fun(v:Du) hm z=>?_|refine Az (Z8N _ _ _ ?_) fun(v:(List BC)) hm z=>?_|refine Az (Zyb _ _ ?_) fun(v:(A7×(List BF))) hm z=>?_|refine Az (ZqR k _ _ ?_ ?_ ?_ ?_) fun(v:Ac) hm z=>?_|refine Az (ZtI k _ ?_ ?_ ?_) fun(v:Int) hm z=>?_|refine Az (ZsN _ _ _ ?_ ?_) fun(v:(A7×(List AL))) hm z=>?_|refine Az (Zn1 _ _ ?_) fun(v:Bool) hm z=>?_|refine Az (ZmW _) fun(v:Int) hm z=>?_|refine Z30 ?_ fun v z=>?_|refine Az (ZbM (k+8) _ _ ?_ ?_ ?_) fun(v:(Ac×(List BD))) hm z=>?_|refine Az (Zrl _ _ _ _ ?_ ?_ ?_) fun(v:(A7×(List AL)×Int)) hm z=>?_|refine Az (ZpB _ _ _ ?_ ?_) fun(v:(A7×(List AL))) hm z=>?_|refine Az (ZcF _ _ _ _ ?_ ?_) fun(v:Cm) hm z=>?_|refine Az (ZaW _ _ _ ?_) fun(v:Cm) hm z=>?_|refine Az (Ztc _) fun(v:Int) hm z=>?_|refine Az (Zw5 _ _ _ _ ?_ ?_) fun(v:((List Int)×Int)) hm z=>?_|refine Az (Z9h _ ?_ ?_) fun(v:(AL×Int)) hm z=>?_|refine Az (Zqr _ _ _ _ ?_ ?_) fun(v:(A7×(List AL)×(List BD))) hm z=>?_|refine Qj ?_ fun v z=>?_|refine Az (Z9D _ _ ?_) fun(v:(List BD)) hm z=>?_|with_reducible apply And.intro|rfl|assumption|exact True.intro|omega|exact decide_eq_true (GN _).1|exact GL (by assumption) (by omega)|exact Gj (by assumption) (by omega)|(refine FY.2 ?_;first|omega|grind)|(apply Gh;first|omega|(simp only[Bh];omega))|(simp only[Dy,Bh,Cb,maxLen_eq,kL,kA]<;>omega)|(simp(disch:=omega) only[Bo,decide_eq_true_eq,bne_iff_ne,ne_eq];(repeat' split)<;>omega)|(simp[D8,Ey];done)|grind|(simp only[Dy,Bh,Cb,maxLen_eq,kL,kA]<;>grind)|grind [EI]
def ZxD:=Q5.1
def ZnE:=Q5.2.1
def ZvT:=Q5.2.2.1
def Zrj:=Q5.2.2.2.1
def Zrs:=Q5.2.2.2.2.1
def Zxc:=Q5.2.2.2.2.2.1
def ZtY:=Q5.2.2.2.2.2.2.1
def Zn0:=Q5.2.2.2.2.2.2.2
theorem Z3q:(∀(k:Int) (D:Ac),BQ k D->0<=k->k<=1000000->∃r,oU D=some r/\BQ k r.1/\r.2.length<=300/\Ci r.2) /\
  (∀(k:Int) (D:Ac) (G:EN) (J:Int),BQ k D->Eu G->0<=k->k<=1000000->∃r,Nz D G J=some r/\BQ (k+2) r.1) /\
  (∀(k:Int) (D:Ac) (G:List Int) (J:Bool) (S:Int),BQ k D->0<=k->k<=1000000->G.length<=65536->Ci G->∃r,lT D G J S=some r/\BQ (k+8) r.1/\r.2.1.length<=4):=by
 refine⟨fun k D N O Q=>BK (fun(p:Ym)=>match p with | .b0 A=>BQ k A | .b1 A _ q=>BQ k A/\CO q.BU) (fun(p:Ym)=>match p with | .b0 ..=>(0,0,1) | .b1 ..=>(0,0,0)) ?_ _ ?_,
  fun k D G J N O Q h3=>BK (fun(p:dW)=>match p with | .b0 A F _=>BQ k A/\Eu F | .b1 _ _ q=>BQ (k+2) q | .b2 _ _ q=>BQ (k+2) q) (fun(p:dW)=>match p with | .b0 ..=>(0,0,1)|_=>(0,0,0)) ?_ _ ?_,
  fun k D G J S N O Q h3 h4=>BK (fun(p:XM)=>match p with | .b0 A F _ _=>BQ k A/\F.length<=65536/\Ci F | .b1 A _ q _=>BQ k q/\A.length<=65536/\Ci A | .b2 A _ q _=>BQ k q/\A.length<=65536/\Ci A | .b3 _ _ q _ C=>BQ k q/\CO C.BU | .b4 _ _ q _ C=>BQ k q/\CO C.BU | .b5 _ _ q _ C _=>BQ k q/\CO C.BU/\q.Ag.Open=true/\q.Ag.Empty=false | .b6 _ _ q _ C I=>BQ k q/\CO C.BU/\CO I | .b7 _ _ q _ C _=>BQ k q/\CO C.BU | .b8 _ _ q _ C I=>BQ k q/\CO C.BU/\CO I | .b9 _ _ _ M C _ Y a7=>M.length<=2/\BQ k C/\CO Y.BU/\CO a7 | .b10 _ F q _ C I=>F.length<=2/\BQ k q/\CO C.BU/\CO I | .b11 A F _ M=>A.length<=4/\BQ (k+8) F/\CO M.BU) (fun(p:XM)=>match p with | .b0 ..=>(0,0,11) | .b1 ..=>(0,0,10) | .b2 ..=>(0,0,9) | .b3 ..=>(0,0,8) | .b4 ..=>(0,0,7) | .b5 ..=>(0,0,6) | .b6 ..=>(0,0,5) | .b7 ..=>(0,0,4) | .b8 ..=>(0,0,3) | .b9 ..=>(0,0,2) | .b10 ..=>(0,0,1) | .b11 ..=>(0,0,0)) ?_ _ ?_⟩
 all_goals try (intro p hp;cases p)
 all_goals
  try dsimp only at hp
  try exact False.elim hp
  try have hx:=hp
  try dsimp only[BQ,DX,BM,D5,CO,Eo,Eu,ES]at hx
  try (repeat with_reducible (have hq:=And.left hp;replace hp:=And.right hp))
  try simp only[ZaN,IB,Z83]
  try dsimp only
  repeat' first|(refine Ea ?_;dsimp only;try simp(disch:=omega) only[Bo,Bh,List.nil_append,List.drop_zero])|(refine FM (fun h=>?_) (fun h=>?_)<;>(try simp only[Fj,reduceCtorEq]at h;try simp(disch:=omega) only[Bo]at h))|refine Dl ?_ ?_|refine Gl ?_|refine Az (ZsM k _ ?_ ?_ ?_) fun(v:Ac) hm z=>?_|refine Az (ZvH _ ?_) fun(v:(Bd×Be)) hm z=>?_|refine Az (ZvT _ _ ?_ ?_) fun(v:(Be×Int)) hm z=>?_|refine Az (ZqB _ ?_) fun(v:((List Int)×Int)) hm z=>?_|refine Az (ZnE k _ ?_ ?_ ?_) fun(v:Int) hm z=>?_|refine Az (Zq8 _ _ ?_ ?_) fun(v:(List Int)) hm z=>?_|refine Az (ZqS _ _ ?_) fun(v:QT) hm z=>?_|refine Az (ZtX k _ _ ?_ ?_ ?_ ?_) fun(v:(Ac×Int)) hm z=>?_|refine Az (Zrs k _ _ _ ?_ ?_ ?_ ?_) fun(v:(Ac×Int)) hm z=>?_|refine Az (ZpX _) fun(v:Int) hm z=>?_|refine Az (Zxc k _ _ ?_ ?_ ?_ ?_) fun(v:(Ac×Int)) hm z=>?_|refine Az (Zo8 _ _ _ ?_) fun(v:Int) hm z=>?_|refine Az (ZrL _ ?_) fun(v:(List BC)) hm z=>?_|refine Az (Zsr _ _ ?_ ?_) fun(v:((List Int)×Int)) hm z=>?_|refine Az (Z8N _ _ _ ?_) fun(v:(List BC)) hm z=>?_|refine Az (ZpN _ ?_ ?_) fun(v:(Be×Int)) hm z=>?_|refine Az (Z1q _) fun(v:Bool) hm z=>?_|refine Az (ZtY _ _ ?_ ?_) fun(v:(Be×Int)) hm z=>?_|refine Az (ZbM k _ _ ?_ ?_ ?_) fun(v:(Ac×(List BD))) hm z=>?_|refine Zdp ?_ fun v z=>?_|refine Az (ZtM _ _ ?_ ?_) fun(v:(Bd×BB×Bool×Bool)) hm z=>?_|refine Az (ZsH k _ _ ?_ ?_ ?_ ?_) fun(v:(Ac×(List BD))) hm z=>?_|refine Az (Zar _ _ _ ?_) fun(v:Cm) hm z=>?_|refine Az (Zn0 k _ _ _ ?_ ?_ ?_ ?_ ?_) fun(v:(Ac×(List BD))) hm z=>?_|with_reducible apply And.intro|rfl|assumption|exact True.intro|omega|exact decide_eq_true (GN _).1|exact GL (by assumption) (by omega)|exact Gj (by assumption) (by omega)|(refine FY.2 ?_;first|omega|grind)|(apply Gh;first|omega|(simp only[Bh];omega))|(simp only[Dy,Bh,Cb,maxLen_eq,kL,kA]<;>omega)|(simp(disch:=omega) only[Bo,decide_eq_true_eq,bne_iff_ne,ne_eq];(repeat' split)<;>omega)|(simp[D8,Ey];done)|grind|(simp only[Dy,Bh,Cb,maxLen_eq,kL,kA]<;>grind)|grind [EI]
def ZuO:=Z3q.1
def Z3d:=Z3q.2.1
def ZmT:=Z3q.2.2
theorem Zjc:∀(k:Int) (Y:Em) (p1:CS) (p2:Int) (p3:Bool) (p4:Int),Ij Y->0<=k->k<=500000->D5 k p1->∃r,yU Y p1 p2 p3 p4=some r/\D5 (k+200) r.1:=by
 refine fun k Y p1 p2 p3 p4 h0 h1 h2 h3=>BK (fun(p:WQ)=>match p with | .b0 N D _ _ _=>Ij N/\D5 k D | .b1 _ _ _ z G q _=>Ij G/\D5 (k+2*z) q/\0<=z/\z<=8 | .b2 _ _ _ z G q _=>Ij G/\D5 (k+2*z) q/\0<=z/\z<8/\z<(G.RG.length:Int) | .b3 _ _ _ z G _=>Ij z/\D5 (k+16) G | .b4 _ _ _ z G q _=>Ij G/\D5 (k+2*z+2) q/\0<=z/\z<8 | .b5 _ _ _ z G q _ A=>Ij G/\Eu A/\(D5 (k+2*z) q/\0<=z/\z<8/\(A.Side=0\/A.Side=1)) | .b6 _ _ _ z _ q J A _=>Ij J/\D5 (k+16+20*q) A/\0<=q/\q<=6/\z<=6 | .b7 _ D _=>D5 (k+150) D | .b8 _ _ _ z _ q J A _=>Ij J/\D5 (k+16+20*q) A/\0<=q/\q<6/\q<z/\z<=6 | .b9 _ _ _ z _=>D5 (k+150) z | .b10 _ _ _ z _ q J A S C _=>Ij S/\(D5 (k+16+20*q) C/\0<=q/\q<6/\q<z/\z<=6/\(J=0\/J=1)/\A.length<=300/\Ci A) | .b11 _ D _=>D5 (k+150) D | .b12 _ D _=>D5 (k+150) D | .b13 _ _ _ z _ q _ A _ C F I _=>A.length<=4/\Ij F/\D5 (k+16+20*q+8+2*C) I/\0<=q/\q<6/\q<z/\z<=6/\A.length<=4/\0<=C/\C<=(A.length:Int) | .b14 _ D O _=>D5 (k+150+8*D) O/\0<=D/\D<=2 | .b15 _ _ _ z _ q _ A _ C F I _=>A.length<=4/\Ij F/\D5 (k+16+20*q+8+2*C) I/\0<=q/\q<6/\q<z/\z<=6/\A.length<=4/\0<=C/\C<(A.length:Int) | .b16 _ _ _ z _ q _ A _ C F I _=>A.length<=4/\Ij F/\D5 (k+16+20*q+10+2*C) I/\0<=q/\q<6/\q<z/\z<=6/\A.length<=4/\0<=C/\C<(A.length:Int) | .b17 _ _ _ z _ q J A _=>Ij J/\D5 (k+16+20*q+20) A/\0<=q/\q<6/\z<=6) (fun(p:WQ)=>match p with | .b0 ..=>(5,0,0) | .b1 _ _ _ z _ _ _=>(4,(8 - z).toNat,3) | .b2 _ _ _ z _ _ _=>(4,(8 - z).toNat,2) | .b3 ..=>(3,0,0) | .b4 _ _ _ z _ _ _=>(4,(8 - z).toNat,0) | .b5 _ _ _ z _ _ _ _=>(4,(8 - z).toNat,1) | .b6 _ _ _ _ _ q _ _ _=>(2,(6 - q).toNat,200) | .b8 _ _ _ _ _ q _ _ _=>(2,(6 - q).toNat,199) | .b9 ..=>(1,1,0) | .b10 _ _ _ _ _ q _ _ _ _ _=>(2,(6 - q).toNat,198) | .b13 _ _ _ _ _ q _ A _ C _ _ _=>(2,(6 - q).toNat,(45+(10*((A.length:Int) - C))).toNat) | .b14 _ D _ _=>(0,(2 - D).toNat,0) | .b15 _ _ _ _ _ q _ A _ C _ _ _=>(2,(6 - q).toNat,(44+(10*((A.length:Int) - C))).toNat) | .b16 _ _ _ _ _ q _ A _ C _ _ _=>(2,(6 - q).toNat,(43+(10*((A.length:Int) - C))).toNat) | .b17 _ _ _ _ _ q _ _ _=>(2,(6 - q).toNat,1)|_=>(1,0,0)) ?_ _ ?_
 all_goals try (intro p hp;cases p)
 case' b5 N D O z G q J A=>
  have M:=Z3d (k+2*z)
 case' b8 N D O z G q J A S=>
  have M:=ZuO (k+(16+20*q))
 case' b10 N D O z G q J A S C F=>
  have M:=ZmT (k+(16+20*q))
 case' b14 N D O z=>
  have M:=Zrj (k+(150+8*D))
 case' b15 N D O z G q J A S C F I a12=>
  have M:=Z3d (k+(16+20*q+8+2*C))
 all_goals
  try dsimp only at hp
  try exact False.elim hp
  try have hx:=hp
  try dsimp only[BQ,DX,BM,D5,CO,Eo,Eu,ES]at hx
  try (repeat with_reducible (have hq:=And.left hp;replace hp:=And.right hp))
  try simp only[Z6a]
  try dsimp only
  repeat' first|(refine Ea ?_;dsimp only;try simp(disch:=omega) only[Bo,Bh,List.nil_append,List.drop_zero])|(refine FM (fun h=>?_) (fun h=>?_)<;>(try simp only[Fj,reduceCtorEq]at h;try simp(disch:=omega) only[Bo]at h))|refine Dl ?_ ?_|refine Gl ?_|refine ZC3 ?_ fun v Q=>?_|refine Az (Z9w (k+16) _ ?_ ?_ ?_) fun(v:Bool) hm Q=>?_|refine Az (M _ _ _ ?_ ?_ ?_ ?_) fun(v:(Ac×Int)) hm Q=>?_|refine Az (M _ ?_ ?_ ?_) fun(v:(Ac×(List Int))) hm Q=>?_|refine Az (M _ _ _ _ ?_ ?_ ?_ ?_ ?_) fun(v:(Ac×(List BD)×Bool)) hm Q=>?_|refine Zd9 ?_ fun v Q=>?_|refine Az (M _ _ ?_ ?_ ?_) fun(v:(Ac×(List BD))) hm Q=>?_|with_reducible apply And.intro|rfl|assumption|exact True.intro|omega|exact decide_eq_true (GN _).1|exact GL (by assumption) (by omega)|exact Gj (by assumption) (by omega)|(refine FY.2 ?_;first|omega|grind)|(apply Gh;first|omega|(simp only[Bh];omega))|(simp only[Dy,Bh,Cb,maxLen_eq,kL,kA]<;>omega)|(simp(disch:=omega) only[Bo,decide_eq_true_eq,bne_iff_ne,ne_eq];(repeat' split)<;>omega)|(simp[D8,Ey];done)|grind|(simp only[Dy,Bh,Cb,maxLen_eq,kL,kA]<;>grind)|grind [EI]
theorem ZkP:∀(D:Il),ES D->∃r,ZA D=some r/\((r.2.2=true->BQ 20000 r.1)):=by
 refine fun D M=>BK (fun(p:Wn)=>match p with | .b0 q=>ES q | .b1 ..=>True | .b2 q _=>ES q/\q.Events.length<=60/\EI q.BR | .b3 q z _ C=>ES z/\((0<q->BQ 0 C.x0)/\(1<q->BQ 0 C.x1)/\0<=q/\q<=2/\z.Events.length<=60/\EI z.BR) | .b4 _ z A _ F=>ES A/\D5 (200*z) F/\0<=z/\z<=(A.Events.length:Int)/\A.Events.length<=60/\EI A.BR) (fun(p:Wn)=>match p with | .b0 ..=>(4,0,0) | .b1 ..=>(0,0,0) | .b2 ..=>(3,0,0) | .b3 q _ _ _=>(2,(2 - q).toNat,0) | .b4 _ z A _ _=>(1,((A.Events.length:Int) - z).toNat,0)) ?_ _ ?_
 all_goals try (intro p hp;cases p)
 case' b4 q z A C F=>
  have I:=Zjc (200*z)
 all_goals
  try dsimp only at hp
  try exact False.elim hp
  try have J:=hp
  try dsimp only[BQ,DX,BM,D5,CO,Eo,Eu,ES]at J
  try (repeat with_reducible (have N:=And.left hp;replace hp:=And.right hp))
  try simp only[Z6Q]
  try dsimp only
  repeat' first|(refine Ea ?_;dsimp only;try simp(disch:=omega) only[Bo,Bh,List.nil_append,List.drop_zero])|(refine FM (fun h=>?_) (fun h=>?_)<;>(try simp only[Fj,reduceCtorEq]at h;try simp(disch:=omega) only[Bo]at h))|refine Dl ?_ ?_|refine Gl ?_|refine Az (ZxD _ _ _ _ _ _ ?_ ?_ ?_) fun(v:(Ac×Int)) hm G=>?_|refine Az (I _ _ _ _ _ ?_ ?_ ?_ ?_) fun(v:(CS×Int)) hm G=>?_|refine Zzu ?_ fun v G=>?_|with_reducible apply And.intro|rfl|assumption|exact True.intro|omega|exact decide_eq_true (GN _).1|exact GL (by assumption) (by omega)|exact Gj (by assumption) (by omega)|(refine FY.2 ?_;first|omega|grind)|(apply Gh;first|omega|(simp only[Bh];omega))|(simp only[Dy,Bh,Cb,maxLen_eq,kL,kA]<;>omega)|(simp(disch:=omega) only[Bo,decide_eq_true_eq,bne_iff_ne,ne_eq];(repeat' split)<;>omega)|(simp[D8,Ey];done)|grind|(simp only[Dy,Bh,Cb,maxLen_eq,kL,kA]<;>grind)|grind [EI]
theorem Ll {a:Int} (h : -9223372036854775808<=a) (q : a<=9223372036854775807):AV a=a:=by
 simp only[AV,IntKind.wrap,IntKind.signed,IntKind.bits];simp;omega
theorem uU (n:Int):IntKind.wrap .u16 n=n % 65536:=by simp[IntKind.wrap,IntKind.bits,IntKind.signed]
theorem fe {P R:Type} {T:P->Tr U (R⊕P)} {p:P} {o:Option R} (h:(T p).den (Gs (AY T))=o):AY T p=o:=(BA T p).trans h
theorem NT {n:Nat}:(n==n)=true:=beq_self_eq_true n
def r16 (n:Int):Prop:=0<=n/\n<65536
theorem Z8Z (a n:Int) (h:r16 a):UX a n=bK a n:=by
 refine(fe ?_).trans (fe rfl).symm;simp only[Z8Q,Z2U,DN];obtain⟨q,z⟩:=h;have A:=Int.tmod_lt_of_pos n (show (0:Int)<65536 by decide);have C:=Int.lt_tmod_of_pos n (show (0:Int)<65536 by decide);have D:(Int.tmod n 65536) % 65536=n % 65536:=by
  have:=Int.tmod_add_mul_tdiv n 65536;omega
 rw[Ll (a:=a) (by omega) (by omega),Ll (a:=a+Int.tmod n 65536) (by omega) (by omega),Ll (by omega) (by omega),Int.tmod_eq_emod_of_nonneg (by omega)];simp only[uU];congr 1;omega
theorem Znw (a b:Int) (q:r16 a) (hb:r16 b):lJ a b=pJ a b:=by
 obtain⟨C,D⟩:=q;obtain⟨F,G⟩:=hb;have A:∀n:Int,IntKind.wrap .i16 n=(n+32768) % 65536 - 32768:=fun n=>by simp[IntKind.wrap,IntKind.bits,IntKind.signed];omega
 refine(fe ?_).trans (fe rfl).symm;have b1:∀n:Int,-100000<=n->n<=100000->AY aC (.b1 n)=some (if n>32767 then n - 65536 else n):=fun n I z =>fe (by
  simp only[aC,DN]
  by_cases h:n>32767
  ·rw[decide_eq_true h,if_pos h,Ll (by omega) (by omega)];rfl
  ·rw[decide_eq_false h,if_neg h];rfl)
 simp only[Z8E,aC,DN];rw[Ll (a:=a) (by omega) (by omega),Ll (a:=b) (by omega) (by omega),Ll (a:=b - a) (by omega) (by omega),A,uU,Ll (by omega) (by omega)]
 by_cases h:b - a < -32768
 ·rw[decide_eq_true h,Ll (by omega) (by omega)];simp only[cond_true];rw[b1 _ (by omega) (by omega)];congr 1;split<;>omega
 ·rw[decide_eq_false h];simp only[cond_false];rw[b1 _ (by omega) (by omega)];congr 1;split<;>omega
theorem Zls (a b:Int) (q:r16 a) (hb:r16 b):kG a b=Xc a b:=by
 refine(fe ?_).trans (fe rfl).symm;simp only[ZR,Z0R,DN,Znw b a hb q]
theorem Zm8 (a:Int) (h:r16 a):kT a 0=aP a 0:=by
 refine(fe ?_).trans (fe rfl).symm;simp only[Z06,Z23,DN];rw[Z8Z _ _ h];rfl
theorem Zll (a:Int) (c:BF) (h:r16 a) (hc:r16 c.CP):kS a c=YF a c:=by
 have hb:AY Rj (.b1 a c)=AY YX (.b1 a c):=by
  refine(fe ?_).trans (fe rfl).symm;simp only[Rj,YX,DN,Zls _ _ h hc]
 refine(fe ?_).trans (fe rfl).symm;simp only[Rj,YX,DN,hb]
theorem qV (l:List BF) (h:l.length<=1000000):QG l=some ⟨l⟩:=if_pos ⟨by rw[show lim=140737488355328 from rfl];omega,by rw[show maxLen=9223372036854775807 from rfl];omega⟩
theorem Zd3 (l:List AL) (h:l.length<=1000000):RS l=some ⟨l⟩:=if_pos ⟨by rw[show lim=140737488355328 from rfl];omega,by rw[show maxLen=9223372036854775807 from rfl];omega⟩
theorem JO {n k:Nat} (h:n<=2000000) (q:k<=1000):(decide (n*k<=lim)&&decide (n<=maxLen))=true:=by
 rw[show lim=140737488355328 from rfl,show maxLen=9223372036854775807 from rfl];have:n*k<=2000000*1000:=Nat.mul_le_mul h q;rw[decide_eq_true (by omega),decide_eq_true (by omega)];rfl
theorem ZnB (l:List BF) (a:Int) (c:BF) (q:l.length<=1) (h:r16 a) (hc:r16 c.CP):lC l a c=VB l a c:=by
 refine(fe ?_).trans (fe rfl).symm;simp only[Z0B,Z2y,DN,Zll a c h hc,qV l (by omega),NT,cond_true,List.nil_append,Option.bind_some,List.length_nil,Nat.zero_add];rw[JO (by omega) (by decide)];cases YF a c with
 | none=>rfl
 | some e=>
  simp only[Option.bind_some,cond_true];cases z:(e != 0) with
  | true=>rfl
  | false=>
   simp only[cond_false];cases l with
   | nil=>rfl
   | cons x xs=>
    rw[decide_eq_true (show ((x::xs).length:Int)>0 by rw[List.length_cons];omega)];rfl
theorem Zcw (k:Int):jF k=Nk k:=by
 refine(fe ?_).trans (fe rfl).symm;rfl
theorem pV (k:Int):Nk k=some (k==0||k==1):=fe (by
 simp only[Z1u,DN];cases k==0<;>rfl)
theorem Zpf (c:AL):X9 c=some ⟨c.Kind,c.CP,c.BG,c.Map⟩:=fe rfl
theorem e_can (s:A7) (c:AL):bW s c=some (!(c.Kind==0||c.Kind==1)||((s.Ak.length:Int)==0)):=fe (by
 simp only[Z2t,DN,pV,Option.bind_some];cases (c.Kind==0||c.Kind==1)<;>rfl)
def vW (a b:Int):Bool:=decide (AV (IntKind.wrap .i16 (IntKind.wrap .u16 (a - b)))>=0)
theorem ZkZ (a b:Int):kG a b=some (vW a b):=fe (by
 have h:lJ b a=some (AV (IntKind.wrap .i16 (IntKind.wrap .u16 (a - b)))):=fe rfl;simp only[ZR,DN,h,Option.bind_some];rfl)
def Jj (a:Int):Int:=IntKind.wrap .u16 (a+IntKind.wrap .u16 6)
theorem Z7x (a:Int):kT a 0=some (Jj a):=fe (by
 have h:∀a n,UX a n=some (IntKind.wrap .u16 (a+IntKind.wrap .u16 n)):=fun a n=>fe rfl;simp only[Z06,DN,h,Option.bind_some];rfl)
theorem Zud (a:Int) (h:r16 a):aP a 0=some (Jj a):=(Zm8 a h).symm.trans (Z7x a)
theorem ZBB (a:Int):r16 (Jj a):=by unfold Jj r16;rw[uU];omega
def Ve (a:Int) (c:BF):Int:=bif c.Kind != 0&&c.Kind != 1 then 12 else bif vW a c.CP then 18 else 0
theorem Zl3 (a:Int) (c:BF):kS a c=some (Ve a c):=by
 have hb:AY Rj (.b1 a c)=some (bif vW a c.CP then 18 else 0):=fe (by
  simp only[Rj,DN,ZkZ,Option.bind_some];cases vW a c.CP<;>rfl)
 refine fe ?_;simp only[Rj,DN,hb];unfold Ve;cases c.Kind != 0<;>cases c.Kind != 1<;>rfl
def O5 (l:List BF) (a:Int) (c:BF):List BF×Int:=bif Ve a c != 0 then (l,Ve a c) else if l.length=0 then ([c],0) else (l,20)
theorem Z7V (l:List BF) (a:Int) (c:BF) (q:l.length<=1):lC l a c=some (O5 l a c):=fe (by
 simp only[Z0B,DN,Zl3,qV l (by omega),NT,cond_true,Option.bind_some];unfold O5;cases Ve a c != 0 with
 | true=>rfl
 | false=>
  cases l with
  | nil=>rfl
  | cons x xs=>
   rw[decide_eq_true (show ((x::xs).length:Int)>0 by rw[List.length_cons];omega),if_neg (by rw[List.length_cons];omega)];rfl)
theorem ZwT (l:List BF) (a:Int) (c:BF) (q:l.length<=1) (h:r16 a) (hc:r16 c.CP):VB l a c=some (O5 l a c):=(ZnB l a c q h hc).symm.trans (Z7V l a c q)
def iJ (c:AL):BF:=⟨c.Kind,c.CP,c.BG,c.Map⟩
def JX (s:A7) (c:AL) (now:Int):A7:={ s with Own:=c.Kind,Since:=now }
def TZ (s:A7) (c:AL) (ev now:Int):A7:={ JX s c now with Ak:=(O5 s.Ak ev (iJ { c with CP:=Jj ev })).1,Told:=false }
def FP (s:A7) (c:AL) (ev now:Int):A7×AL:=
 if c.Kind=0 then (if s.Other=15 then { TZ s c ev now with Other:=-1 } else TZ s c ev now,{ c with CP:=Jj ev })
 else if c.Kind=1 then (TZ s c ev now,{ c with CP:=Jj ev })
 else if c.Kind=3 then ({ JX s c now with CE:=c.CE,Mark:=c.Mark,CJ:=1 },c)
 else if c.Kind=12 then ({ JX s c now with FX:=true },c)
 else if c.Kind=20 then ({ JX s c now with Limit:=c.Length },c)
 else (JX s c now,c)
theorem ZtD (s:A7) (c:AL) (ev now:Int) (O:s.Ak.length<=1) (N:r16 ev):YR s c ev now=some (FP s c ev now):=by
 have b4:∀s c z w,AY NC (.b4 s c z w)=some (s,c):=fun s c z w=>fe rfl;have b5:∀s c z w,AY NC (.b5 s c z w)=some ({ s with Other:=-1 },c):=fun s c z w=>fe (by simp only[NC,DN,b4]);have b1:∀z w,(c.Kind=0\/c.Kind=1)->AY NC (.b1 ev (JX s c now) c z w)=some (FP s c ev now):=fun z w hk=>fe (by
  simp only[NC,DN,Zud ev N,Option.bind_some,Zpf];rw[ZwT (JX s c now).Ak ev _ O N (ZBB ev),Option.bind_some];have e:∀M : A7,M = TZ s c ev now->AY NC (.b3 M { c with CP:=Jj ev } z w)=some (FP s c ev now):=fun M Q=>fe (by
   simp only[NC,DN,b4,b5];subst Q;unfold FP;rcases hk with hk|hk
   ·rw[if_pos hk,show (c.Kind==0)=true from beq_iff_eq.2 hk];simp only[cond_true]
    by_cases G:s.Other=15
    ·rw[if_pos G,show ((TZ s c ev now).Other==15)=true from beq_iff_eq.2 G];rfl
    ·rw[if_neg G,show ((TZ s c ev now).Other==15)=false from beq_eq_false_iff_ne.2 G];rfl
   ·rw[if_neg (by omega),if_pos hk,show (c.Kind==0)=false from beq_eq_false_iff_ne.2 (by omega)];rfl)
  by_cases J:(O5 (JX s c now).Ak ev ⟨c.Kind,Jj ev,c.BG,c.Map⟩).2=0
  ·rw[show ((O5 (JX s c now).Ak ev ⟨c.Kind,Jj ev,c.BG,c.Map⟩).2==0)=true from beq_iff_eq.2 J];refine fe ?_;have:=e _ rfl;rw[BA]at this;exact this
  ·rw[show ((O5 (JX s c now).Ak ev ⟨c.Kind,Jj ev,c.BG,c.Map⟩).2==0)=false from beq_eq_false_iff_ne.2 J];have I:(O5 s.Ak ev (iJ { c with CP:=Jj ev })).1=s.Ak:=by
    revert J;show (O5 s.Ak ev (iJ { c with CP:=Jj ev })).2≠0->_;unfold O5;cases Ve ev (iJ { c with CP:=Jj ev }) != 0 with
    | true=>intro _;rfl
    | false=>
     simp only[cond_false];split
     ·intro h;exact absurd rfl h
     ·intro _;rfl
   have:=e { JX s c now with Told:=false } (by unfold TZ;rw[I];rfl);refine fe ?_;rw[BA]at this;exact this)
 refine fe ?_;simp only[NC,DN]
 by_cases q:c.Kind=0
 ·rw[show (c.Kind==0)=true from beq_iff_eq.2 q];exact b1 _ _ (.inl q)
 ·rw[show (c.Kind==0)=false from beq_eq_false_iff_ne.2 q]
  by_cases A:c.Kind=1
  ·rw[show (c.Kind==1)=true from beq_iff_eq.2 A];exact b1 _ _ (.inr A)
  ·rw[show (c.Kind==1)=false from beq_eq_false_iff_ne.2 A];simp only[cond_false];refine fe ?_;unfold FP;rw[if_neg q,if_neg A];simp only[NC,DN,b4]
   by_cases C:c.Kind=3
   ·rw[if_pos C,show (c.Kind==3)=true from beq_iff_eq.2 C];rfl
   ·rw[if_neg C,show (c.Kind==3)=false from beq_eq_false_iff_ne.2 C]
    by_cases D:c.Kind=12
    ·rw[if_pos D,show (c.Kind==12)=true from beq_iff_eq.2 D];rfl
    ·rw[if_neg D,show (c.Kind==12)=false from beq_eq_false_iff_ne.2 D]
     by_cases F:c.Kind=20
     ·rw[if_pos F,show (c.Kind==20)=true from beq_iff_eq.2 F];rfl
     ·rw[if_neg F,show (c.Kind==20)=false from beq_eq_false_iff_ne.2 F];rfl
theorem ZBD (c:AL) (y:DF) (h:y.f_out.length<=1000):wQ c y=some ⟨{ y with f_out:=y.f_out++[c] }⟩:=fe (by
 simp only[Z5f,DN,NT,Bool.and_self,cond_true];rw[JO (by first|omega|(simp only[List.length_cons,List.length_nil];omega)) (by decide)];rfl)
def updB (u:DT):List Int:=num 1 (IntKind.wrap .u64 u.EX)++num 2 (IntKind.wrap .u64 u.EW)++num 2 (IntKind.wrap .u64 u.Dp)++num 2 (IntKind.wrap .u64 u.Dq)++num 2 (IntKind.wrap .u64 u.Ei)
def BJ (c:AL) (u:Bl):List Int:=[IntKind.wrap .u8 c.Kind]++((bif u.BG then updB c.BG else [])++((bif u.Map then num 5 c.Map else [])++((bif u.CP then num 2 (IntKind.wrap .u64 c.CP) else [])++((bif u.Bq then [IntKind.wrap .u8 c.Bq] else [])++((bif u.Dx then [IntKind.wrap .u8 c.Dx] else [])++
 ((bif u.CE then num 8 c.CE else [])++((bif u.Mark then num 8 c.Mark else [])++((bif u.DK then num 8 c.DK else [])++((bif u.Version then [IntKind.wrap .u8 c.Version] else [])++(bif u.Length then [IntKind.wrap .u8 c.Length] else []))))))))))
theorem n1 (r:Int):num 1 (IntKind.wrap .u64 r)=[IntKind.wrap .u8 r]:=by
 simp only[num,IntKind.wrap_u64,IntKind.wrap_u8];congr 1;omega
theorem Zzo (xs:List Int) (h:xs.length<=100000):RX xs=some ⟨xs⟩:=by
 have:=sZ;have:=qL;unfold RX;rw[if_pos ⟨by omega,by omega⟩]
theorem ZcM (x:BB) (h:x.Payload.length<=100000):nR x=some x:=(BA _ _).trans (by
 simp only[Zak,DN,Zzo _ h,Option.bind_some,beq_self_eq_true,cond_true])
def TW (q:List BB):Prop:=q.length<=1000/\∀x∈q,x.Payload.length<=100000
theorem ZCW (q:List BB) (C:TW q) (a z:Bd):∀d i:Nat,i+d=q.length->AY bC (.b1 (q.take i) q (q.length:Int) (i:Int) a z)=some ⟨{ a with Aq:=q }⟩:=by
 intro d;induction d with
 | zero=>
  intro i D;have e:i=q.length:=by omega
  subst e;refine(BA _ _).trans ?_;simp only[bC,Int.lt_irrefl,DN,SL,SM];rw[List.take_length]
 | succ d I=>
  intro i D;refine(BA _ _).trans ?_;have A:i<q.length:=by omega
  have F:(q.take i).length=i:=by rw[List.length_take];omega
  have G:=C.2 q[i] (List.getElem_mem A);have:=C.1;simp(disch:=omega) only[bC,A,ZcM _ G,F,DN,SL,SM];have:=I (i+1) (by omega);rw[List.take_succ_eq_append_getElem A]at this;exact this
theorem v_own (a:Bd) (q:TW a.Aq):Z2v a=some ⟨a⟩:=(BA _ _).trans (by
 have z:decide ((0:Int)<=(0:Int)/\(0:Int)<=((a.Aq.length:Nat):Int)/\a.Aq.length*32<=lim/\((a.Aq.length:Nat):Int)<=((maxLen:Nat):Int))=true:=by
  have:=sZ;have:=qL;have:=q.1;exact decide_eq_true ⟨by omega,by omega,by omega,by omega⟩
 simp only[bC,DN,Int.toNat_natCast,z,cond_true,beq_self_eq_true,List.length_nil,Bool.and_self];exact ZCW a.Aq q a _ a.Aq.length 0 (by omega))
def lab (st:ByteArray):List Int:=st.data.toList.map fun b=>(b.toNat:Int)
theorem Zdl (st:ByteArray):Vf U 5 st=true:=List.all_eq_true.2 fun b _=>rfl
theorem ZaF (st:ByteArray):J7 U 5 st=lab st:=by
 unfold J7 lab;induction st.data.toList with
 | nil=>rfl
 | cons b l q=>exact congrArg (List.cons ((b.toNat:Nat):Int)) q
theorem Zc9 (st:ByteArray):Bytes (lab st):=fun x q=>by
 obtain⟨b,_,rfl⟩:=List.mem_map.1 q;have:b.toNat<256:=b.toNat_lt;omega
theorem ZdO (st:ByteArray):(lab st).length=st.size:=by rw[lab,List.length_map,Array.length_toList];rfl
theorem ZbT (l:List Int) (n:Nat):Bytes (l.flatMap (num n)):=Bytes.flat _ _ fun x _=>ZyO n x
theorem ZaA:Bytes [0]:=Bytes.cons ⟨by decide,by decide⟩ Bytes.nil
noncomputable def rY (k:Int) (st:ByteArray) (q:List Int):Int:=uX k (lab st++[0]++q.flatMap (num 8))
theorem Zq6 (k:Int) (st:ByteArray) (q:List Int) (F:st.size<=1000) (D:∀x∈q,JD x) (C:q.length<=100):Z0P k st q=some (rY k st q):=(BA _ _).trans (by
 have z:=Z1h (num 8) 8 q fun x _=>Sj 8 x;have A:=ZdO st;simp only[Z9p,Zdl,ZaF,ZCv q D C,DN,SL,SM];rw[ZCJ _ (by simp[z,A];omega) (by simp)];simp only[Option.bind_some,List.flatten_cons,List.flatten_nil,List.append_nil];rw[v_Tag k _ ((Zc9 st).app (ZaA.app (ZbT q 8))) (by simp[z,A];omega)];rw[rY,List.append_assoc];rfl)
theorem Zp7 (k:Int) (G:JD k) (st:ByteArray) (q:List Int) (D:st.size<=1000) (I:∀x∈q,JD x) (M:q.length<=100):mG k st q=some (rY k st q):=(BA _ _).trans (by
 have z:=Z1h (num 8) 8 q fun x _=>Sj 8 x;have A:=ZdO st;simp(disch:=omega) only[U5,Zdl,ZaF,DN,SL,SM];have:=rD (fun s i=>AY U5 (.b1 k q s i)) q (num 8) (fun s=>SE k s) 5000 (fun i s C D=>(BA _ _).trans (by
   have J:=I q[i] (List.getElem_mem C);rw[Sj]at D;have F:Ox 8 q[i]=some ⟨num 8 q[i]⟩:=v_Num 8 (by decide) _ J;simp(disch:=omega) only[U5,C,F,Sj,DN,SL,SM]))
  (fun s=>(BA _ _).trans (by
   simp only[U5,Int.lt_irrefl,DN,SL,SM];cases SE k s<;>rfl)) (lab st++[0]) (by rw[List.length_append,List.length_cons,List.length_nil,z,A];omega)
 refine this.trans ?_;rw[ZxF k G _ (((Zc9 st).app ZaA).app (ZbT q 8)) (by simp[z,A];omega)];rfl)
def bt (a:Int):Bool:=bif a==0 then true else a==1
theorem ZEj (a:Int):XN a=some (bt a):=(BA _ _).trans (by
 simp only[Z86,DN];unfold bt;cases (a==0)<;>rfl)
theorem ZEN (a:Int):Ut a=some (bt a):=(BA _ _).trans (by
 simp only[Z2L,DN];unfold bt;cases (a==0)<;>rfl)
def WE (x:BB):Int:=bif decide (x.CQ<1) then 12 else bif decide (x.CQ>3) then 12 else bif (((x.Payload.length:Nat):Int)==0)&&(x.CQ != 1) then 1 else bif decide (((x.Payload.length:Nat):Int)>255) then 4 else 0
def I7 (p:Be):Int:=bif !(bt p.SN) then 5 else bif !(bt p.Ee) then 5 else bif !(bt p.MD) then 5 else WE p.BU
theorem ZAA (n:Int):AY QO (.b3 n)=some (bif decide (n>255) then 4 else 0):=(BA _ _).trans (by
 simp only[QO,DN];cases decide (n>255)<;>rfl)
theorem ZBJ (p:Be):AY QO (.b1 ((p.BU.Payload.length:Nat):Int) p)=some (WE p.BU):=(BA _ _).trans (by
 have q:AY QO (.b2 ((p.BU.Payload.length:Nat):Int) p)=some (bif (((p.BU.Payload.length:Nat):Int)==0)&&(p.BU.CQ != 1) then 1 else bif decide (((p.BU.Payload.length:Nat):Int)>255) then 4 else 0):=(BA _ _).trans (by
  simp only[QO,DN,ZAA];cases (((p.BU.Payload.length:Nat):Int)==0)<;>cases (p.BU.CQ != 1)<;>rfl)
 simp only[QO,DN,q];unfold WE;cases decide (p.BU.CQ<1)<;>cases decide (p.BU.CQ>3)<;>rfl)
theorem Z76 (p:Be):kQ p=some (I7 p):=(BA _ _).trans (by
 simp only[QO,DN,ZEj,Option.bind_some,ZBJ];unfold I7;cases bt p.SN<;>cases bt p.Ee<;>cases bt p.MD<;>rfl)
theorem ZjL (x:BB):jX x=some (WE x):=(BA _ _).trans (by
 have z:AY Rf (.b2 x)=some (bif decide (((x.Payload.length:Nat):Int)>255) then 4 else 0):=(BA _ _).trans (by
  simp only[Rf,DN];cases decide (((x.Payload.length:Nat):Int)>255)<;>rfl)
 have q:AY Rf (.b1 x)=some (bif (((x.Payload.length:Nat):Int)==0)&&(x.CQ != 1) then 1 else bif decide (((x.Payload.length:Nat):Int)>255) then 4 else 0):=(BA _ _).trans (by
  simp only[Rf,DN,z];cases (((x.Payload.length:Nat):Int)==0)<;>cases (x.CQ != 1)<;>rfl)
 simp only[Rf,DN,q];unfold WE;cases decide (x.CQ<1)<;>cases decide (x.CQ>3)<;>rfl)
theorem Zam (p:Be):Om p=some (I7 p):=(BA _ _).trans (by
 have q:AY YI (.b1 p)=some (WE p.BU):=(BA _ _).trans (by
  simp only[YI,DN,ZjL,Option.bind_some])
 simp only[YI,DN,ZEN,Option.bind_some,q];unfold I7;cases bt p.SN<;>cases bt p.Ee<;>cases bt p.MD<;>rfl)
def N7 (s:A7):Bool:=bif decide (s.CJ>=1) then decide (s.CJ<=3) else false
theorem Zve (s:A7):Y2 s=some (N7 s):=(BA _ _).trans (by
 simp only[Z1d,DN];unfold N7;cases decide (s.CJ>=1)<;>rfl)
theorem ZB2 (s:A7):Za s=some (N7 s):=(BA _ _).trans (by
 simp only[Z6B,DN];unfold N7
 by_cases q:s.CJ=1
 ·rw[q];rfl
 by_cases z:s.CJ=2
 ·rw[z];rfl
 by_cases A:s.CJ=3
 ·rw[A];rfl
 rw[beq_false_of_ne q,beq_false_of_ne z,beq_false_of_ne A]
 by_cases h:s.CJ>=1
 ·rw[decide_eq_true h,decide_eq_false (by omega)];rfl
 ·rw[decide_eq_false h];rfl)
noncomputable def Hw (c:AL):List Int:=((mP c).getD ([],0)).1
theorem Z2J (w:QM):WG w=some (w.AB.BR != 1):=fe rfl
theorem ZBb:∀k:Int,k=0\/k=1\/k=2\/k=3\/k=8\/k=12\/k=15\/k=18\/k=20->WM k=some k/\Wu k=some true:=by
 have e:∀n:Int,WM n=AY xC (.b0 n):=fun _=>rfl;have q:∀n:Int,kE n=AY kR (.b0 n):=fun _=>rfl;have z:∀n:Int,EF n=AY Kz (.b0 n):=fun _=>rfl
 rintro k (rfl|rfl|rfl|rfl|rfl|rfl|rfl|rfl|rfl)
 all_goals
  refine⟨?_,fe ?_⟩
  ·simp[e,BA,xC,DN]
  ·simp[q,z,BA,ZX,kR,Kz,DN]
def EJ (s:A7) (c:AL):AL:=bif c.Kind==8 then { c with DK:=s.DK } else bif c.Kind==12 then { c with Version:=11 } else bif c.Kind==0||c.Kind==1 then { c with CP:=0 } else c
theorem ZzP (c:AL) (y:DF):wO c y=some ⟨EJ y.AB c,y⟩:=fe (by
 have b1:∀c z,AY iR (.b1 y c z)=some ⟨{ c with CP:=0 },y⟩:=fun c z=>fe (by simp only[iR,DN,Bool.and_self,cond_true]);simp only[iR,DN,Bool.and_self,cond_true,b1];unfold EJ;cases c.Kind==8<;>cases c.Kind==12<;>cases c.Kind==0<;>cases c.Kind==1<;>rfl)
theorem ZpG (s:A7) (c:AL):mM s c=some (EJ s c):=fe (by
 have b1:∀c z,AY mF (.b1 c z)=some { c with CP:=0 }:=fun c z=>fe rfl;simp only[mF,DN,cond_true,b1];unfold EJ;cases c.Kind==8<;>cases c.Kind==12<;>cases c.Kind==0<;>cases c.Kind==1<;>rfl)
theorem ZbX (s:A7) (c:AL):(EJ s c).Kind=c.Kind:=by
 unfold EJ;cases c.Kind==8<;>cases c.Kind==12<;>cases (c.Kind==0||c.Kind==1)<;>rfl
def NV (l:List AL):Bool:=l.any fun c=>c.Kind==3
theorem ZCf (l:List AL) (J:l.length<=1000):∃n:Int,iP l=some ⟨n,l⟩/\decide (n>=0)=NV l:=by
 have C:∀c,wC c=some (c.Kind==3):=fun c=>fe rfl;have key:∀d i:Nat,i+d=l.length->∃n:Int,AY RP (.b1 l (l.length:Nat) i)=some ⟨n,l⟩/\decide (n>=0)=NV (l.drop i):=by
  intro d;induction d with
  | zero=>
   intro i G;obtain rfl:i=l.length:=by omega
   refine⟨-1,fe ?_,?_⟩
   ·simp(disch:=omega) only[RP,Int.lt_irrefl,DN,SL,SM]
   ·rw[List.drop_length];rfl
  | succ d I=>
   intro i G;have z:i<l.length:=by omega
   rw[List.drop_eq_getElem_cons z];cases q:l[i].Kind==3 with
   | true=>
    refine⟨i,fe ?_,?_⟩
    ·simp(disch:=omega) only[RP,z,C,q,DN,SL,SM]
    ·unfold NV;rw[List.any_cons,q,Bool.true_or];exact decide_eq_true (by omega)
   | false=>
    obtain⟨n,F,A⟩:=I (i+1) (by omega);refine⟨n,fe ?_,?_⟩
    ·simp(disch:=omega) only[RP,z,C,q,DN,SL,SM];exact F
    ·unfold NV at A ⊢;rw[List.any_cons,q,Bool.false_or];exact A
 have D:iP l=AY RP (.b1 l (l.length:Nat) ((0:Nat):Int)):=fe (by
  simp(disch:=omega) only[RP,DN,SL,SM];rfl)
 rw[D];exact key l.length 0 (by omega)
theorem Zvk (l:List AL) (A:l.length<=1000):vY l=some ⟨NV l,l⟩:=fe (by
 obtain⟨n,q,z⟩:=ZCf l A;simp only[Z4T,DN,cond_true,q,Option.bind_some,z])
theorem ZBt (s:A7) (D:s.Aa.length<=1000):nX s 3=some (NV s.Aa):=fe (by
 have key:∀d i:Nat,i+d=s.Aa.length->AY U9 (.b1 3 i s)=some (NV (s.Aa.drop i)):=by
  intro d;induction d with
  | zero=>
   intro i z;obtain rfl:i=s.Aa.length:=by omega
   refine fe ?_;simp(disch:=omega) only[U9,Int.lt_irrefl,DN,SL,SM];rw[List.drop_length];rfl
  | succ d A=>
   intro i z;have q:i<s.Aa.length:=by omega
   refine fe ?_;rw[List.drop_eq_getElem_cons q];simp(disch:=omega) only[U9,q,DN,SL,SM];have:=A (i+1) (by omega);unfold NV at this ⊢;rw[List.any_cons];cases C:s.Aa[i].Kind==3
   ·exact this
   ·rfl
 simp only[U9,DN,cond_true];exact key s.Aa.length 0 (by omega))
def RF (s:A7) (k:Int):Bool:=bif s.ER != 0 then true else bif s.Own==2 then true else bif k==0||k==1||k==3 then (bif s.BR != 1 then (bif k==3 then (bif s.CJ != 0 then true else NV s.Aa) else false) else true) else bif k==15 then s.BR != 1 else false
theorem Zya (k:Int) (y:DF) (q:y.AB.Aa.length<=1000):wG k y=some ⟨RF y.AB k,y⟩:=fe (by
 have b2:∀w,AY QC (.b2 k w y)=some ⟨bif y.AB.BR != 1 then (bif k==3 then (bif y.AB.CJ != 0 then true else w) else false) else true,y⟩:=fun w=>fe (by
  simp only[QC,DN,Bool.and_self,cond_true,Z2J,Option.bind_some];cases y.AB.BR != 1<;>cases k==3<;>cases y.AB.CJ != 0<;>rfl)
 have b3:AY QC (.b3 k y)=some ⟨bif k==15 then y.AB.BR != 1 else false,y⟩:=fe (by
  simp only[QC,DN,Bool.and_self,cond_true,Z2J,Option.bind_some];cases k==15<;>rfl)
 have b1:∀w,AY QC (.b1 k w y)=some ⟨bif k==0||k==1||k==3 then (bif y.AB.BR != 1 then (bif k==3 then (bif y.AB.CJ != 0 then true else w) else false) else true) else bif k==15 then y.AB.BR != 1 else false,y⟩:=fun w=>fe (by
  simp only[QC,DN,Bool.and_self,cond_true,Zcw,pV,Option.bind_some,b2,b3];cases k==0<;>cases k==1<;>cases k==3<;>rfl)
 simp only[QC,DN,Bool.and_self,cond_true,Zvk _ q,Option.bind_some,NT,b1];unfold RF;cases y.AB.ER != 0<;>cases y.AB.Own==2<;>rfl)
theorem ZmY (s:A7) (k:Int) (A:s.Aa.length<=1000) (z:s.BR=0\/s.BR=1):lH s k=some (!RF s k):=fe (by
 have b2:AY Rl (.b2 k s)=some (bif k==3 then (bif s.CJ != 0 then false else !NV s.Aa) else true):=fe (by
  simp only[Rl,DN,cond_true,ZBt s A,Option.bind_some];rw[show (k != 3) = !(k==3) from rfl,show (s.CJ != 0) = !(s.CJ==0) from rfl];cases k==3<;>cases s.CJ==0<;>rfl)
 have b1:AY Rl (.b1 k s)=some (!(bif k==0||k==1||k==3 then (bif s.BR != 1 then (bif k==3 then (bif s.CJ != 0 then true else NV s.Aa) else false) else true) else bif k==15 then s.BR != 1 else false)):=fe (by
  simp only[Rl,DN,cond_true,pV,Option.bind_some,b2]
  by_cases q:k=15
  ·subst q;rcases z with h|h<;>rw[h]<;>rfl
  ·rw[beq_false_of_ne q];rcases z with h|h<;>rw[h]<;>cases k==0<;>cases k==1<;>cases k==3<;>cases s.CJ != 0<;>rfl)
 simp only[Rl,DN,cond_true,b1];unfold RF;cases s.ER != 0<;>cases s.Own==2<;>rfl)
theorem ZEK (c:AL) (y:DF) (J:y.AB.Ak.length<=1) (h:y.f_out.length<=1000) :
  WH c y=some ⟨{ y with AB:=(FP y.AB c y.KW y.IE).1,f_out:=y.f_out++[(FP y.AB c y.KW y.IE).2] },y.AB.Ak⟩:=by
 have b4:∀(x:DF) (c:AL) z,x.f_out.length<=1000->AY Oh (.b4 x c z)=some ⟨{ x with f_out:=x.f_out++[c] },z⟩:=fun x c z I=>fe (by
  simp only[Oh,DN,NT,Bool.and_self,cond_true,ZBD c x I,Option.bind_some])
 have b3:∀(x:DF) (c:AL) z,x.f_out.length<=1000->AY Oh (.b3 x c z)=some ⟨{ x with AB:={ x.AB with Other:=-1 },f_out:=x.f_out++[c] },z⟩:=fun x c z I=>fe (by
  simp only[Oh,DN,NT,Bool.and_self,cond_true];exact b4 _ _ _ I)
 have b1:(c.Kind=0\/c.Kind=1)->AY Oh (.b1 { y with AB:=JX y.AB c y.IE } c)=some ⟨{ y with AB:=(FP y.AB c y.KW y.IE).1,f_out:=y.f_out++[(FP y.AB c y.KW y.IE).2] },y.AB.Ak⟩:=fun hk=>fe (by
  have hc:∀c,xZ c=some (iJ c):=fun c=>fe rfl;simp only[Oh,DN,Z7x,Option.bind_some,hc,NT,Bool.and_self,cond_true];rw[Z7V (JX y.AB c y.IE).Ak _ _ J,Option.bind_some];unfold FP;rcases hk with hk|hk
  ·rw[if_pos hk,show (c.Kind==0)=true from beq_iff_eq.2 hk];simp only[cond_true]
   by_cases G:y.AB.Other=15
   ·rw[if_pos G,show ((JX y.AB c y.IE).Other==15)=true from beq_iff_eq.2 G];exact b3 _ _ _ h
   ·rw[if_neg G,show ((JX y.AB c y.IE).Other==15)=false from beq_eq_false_iff_ne.2 G];exact b4 _ _ _ h
  ·rw[if_neg (by omega),if_pos hk,show (c.Kind==0)=false from beq_eq_false_iff_ne.2 (by omega)];exact b4 _ _ _ h)
 refine fe ?_;simp only[Oh,DN,NT,Bool.and_self,cond_true]
 by_cases q:c.Kind=0
 ·rw[show (c.Kind==0)=true from beq_iff_eq.2 q];exact b1 (.inl q)
 ·rw[show (c.Kind==0)=false from beq_eq_false_iff_ne.2 q]
  by_cases A:c.Kind=1
  ·rw[show (c.Kind==1)=true from beq_iff_eq.2 A];exact b1 (.inr A)
  ·rw[show (c.Kind==1)=false from beq_eq_false_iff_ne.2 A];simp only[cond_false];refine fe ?_;unfold FP;rw[if_neg q,if_neg A];simp only[Oh,DN,NT,Bool.and_self,cond_true]
   by_cases C:c.Kind=3
   ·rw[if_pos C,show (c.Kind==3)=true from beq_iff_eq.2 C];exact b4 _ _ _ h
   ·rw[if_neg C,show (c.Kind==3)=false from beq_eq_false_iff_ne.2 C]
    by_cases D:c.Kind=12
    ·rw[if_pos D,show (c.Kind==12)=true from beq_iff_eq.2 D];exact b4 _ _ _ h
    ·rw[if_neg D,show (c.Kind==12)=false from beq_eq_false_iff_ne.2 D]
     by_cases F:c.Kind=20
     ·rw[if_pos F,show (c.Kind==20)=true from beq_iff_eq.2 F];exact b4 _ _ _ h
     ·rw[if_neg F,show (c.Kind==20)=false from beq_eq_false_iff_ne.2 F];exact b4 _ _ _ h
def TQ (s:A7) (c:AL) (e ev now:Int):A7×List AL×Int:=
 bif e != 0 then (s,[],e) else bif RF s c.Kind then (s,[],9) else bif c.Kind==12&&s.FX then (s,[],0) else
 bif c.Kind==2 then ((FP { s with Aa:=[] } (EJ s c) ev now).1,[(FP { s with Aa:=[] } (EJ s c) ev now).2],0) else
 bif decide (s.Own>=0)||(decide (0<s.Aa.length) || !(!(c.Kind==0||c.Kind==1)||((s.Ak.length:Int)==0))) then (bif decide (8<=s.Aa.length) then (s,[],8) else ({ s with Aa:=s.Aa++[EJ s c] },[],0)) else
 ((FP s (EJ s c) ev now).1,[(FP s (EJ s c) ev now).2],0)
structure KO (s:A7):Prop where
 QA:s.Aa.length<=1000
 pen:s.Ak.length<=1
 rol:s.BR=0\/s.BR=1
 own : -1<=s.Own
theorem ZBj (s:A7) (c:AL) (e ev now:Int) (h:KO s) (I:WM c.Kind=some c.Kind) (hc:XB (EJ s c)=some e):jU s c ev now=some (TQ s c e ev now):=by
 have A:XF s ev now=some ⟨⟨s,ev,now,[],[]⟩⟩:=fe (by
  simp only[Z09,DN,Zd3 _ (Nat.le_trans h.QA (by decide)),qV _ (Nat.le_trans h.pen (by decide)),Option.bind_some,Bool.and_self,cond_true])
 have D:=ZbX s c;have hb:∀q : A7,q.Ak.length<=1->WH (EJ s c) ⟨q,ev,now,[],[]⟩=some ⟨⟨(FP q (EJ s c) ev now).1,ev,now,[(FP q (EJ s c) ev now).2],[]⟩,q.Ak⟩:=fun q J=>ZEK (EJ s c) ⟨q,ev,now,[],[]⟩ J (by simp);have b3:∀z (y:DF),AY Kv (.b3 z y)=some (y.AB,y.f_out,0):=fun z y=>fe (by simp only[Kv,DN,cond_true]);have b4:∀z,AY Kv (.b4 (EJ s c) z ⟨s,ev,now,[],[]⟩)=some ((FP s (EJ s c) ev now).1,[(FP s (EJ s c) ev now).2],0):=fun z=>fe (by
  simp only[Kv,DN,hb s h.pen,Option.bind_some,Bool.and_self,cond_true,b3])
 have b5:∀z,AY Kv (.b5 (EJ s c) z ⟨s,ev,now,[],[]⟩)=some (bif decide (8<=s.Aa.length) then (s,[],8) else ({ s with Aa:=s.Aa++[EJ s c] },[],0)):=fun z=>fe (by
  have F:decide (((s.Aa.length:Nat):Int)>=8)=decide (8<=s.Aa.length):=decide_eq_decide.2 (by omega);have G:=JO (n:=s.Aa.length+1) (k:=120) (by have:=h.QA;omega) (by decide);simp only[Kv,DN,F,G,Bool.and_self,cond_true,b3];cases decide (8<=s.Aa.length)<;>rfl)
 have b2:∀z,AY Kv (.b2 (EJ s c) z ⟨s,ev,now,[],[]⟩)=some (bif c.Kind==2 then ((FP { s with Aa:=[] } (EJ s c) ev now).1,[(FP { s with Aa:=[] } (EJ s c) ev now).2],0) else
   bif decide (s.Own>=0)||(decide (0<s.Aa.length) || !(!(c.Kind==0||c.Kind==1)||((s.Ak.length:Int)==0))) then (bif decide (8<=s.Aa.length) then (s,[],8) else ({ s with Aa:=s.Aa++[EJ s c] },[],0)) else
   ((FP s (EJ s c) ev now).1,[(FP s (EJ s c) ev now).2],0)):=fun z=>fe (by
  have o:(s.Own == -1) = !decide (s.Own>=0):=by
   have:=h.own
   by_cases C:s.Own = -1
   ·rw[C];rfl
   ·rw[beq_false_of_ne C,decide_eq_true (by omega)];rfl
  have w:(((s.Aa.length:Nat):Int)==0) = !decide (0<s.Aa.length):=by
   cases M:s.Aa with
   | nil=>rfl
   | cons x xs=>rw[decide_eq_true (by simp)];exact beq_false_of_ne (by rw[List.length_cons];omega)
  have p:(!decide (((s.Ak.length:Nat):Int)>0))=(((s.Ak.length:Nat):Int)==0):=by
   cases M:s.Ak with
   | nil=>rfl
   | cons x xs=>rw[decide_eq_true (by rw[List.length_cons];omega)];exact(beq_false_of_ne (by rw[List.length_cons];omega)).symm
  simp only[Kv,DN,cond_true,D,o,w,p,Zcw,pV,hb { s with Aa:=[] } h.pen,Option.bind_some,Bool.and_self,Bool.and_true,cond_true,b3,b4,b5];cases c.Kind==2<;>cases decide (s.Own>=0)<;>cases decide (0<s.Aa.length)<;>cases (c.Kind==0||c.Kind==1)<;>cases (((s.Ak.length:Nat):Int)==0)<;>rfl)
 have b1:∀z,AY Kv (.b1 z ⟨s,ev,now,[],[]⟩)=some (s,[],0):=fun z=>fe (by simp only[Kv,DN,cond_true]);refine fe ?_;simp only[Kv,DN,cond_true,A,I,hc,ZzP,Zya _ ⟨s,ev,now,[],[]⟩ h.QA,D,Option.bind_some,bne_self_eq_false,cond_false,Bool.and_self,cond_true,b1,b2];unfold TQ;cases e != 0<;>cases RF s c.Kind<;>cases c.Kind==12<;>cases s.FX<;>rfl
theorem ZrU (s:A7) (c:AL) (e ev now:Int) (h:KO s) (G:r16 ev) (I:Wu c.Kind=some true) (hc:Nj (EJ s c)=some e):nH s c ev now=some (TQ s c e ev now):=by
 have A:=ZbX s c;have b3:∀(q : A7) z,q.Ak.length<=1->AY ND (.b3 ev now q (EJ s c) z)=some ((FP q (EJ s c) ev now).1,[(FP q (EJ s c) ev now).2],0):=fun q z J=>fe (by
  simp only[ND,DN,cond_true,ZtD q (EJ s c) ev now J G,Option.bind_some])
 have b4:∀z,AY ND (.b4 s (EJ s c) z)=some (bif decide (8<=s.Aa.length) then (s,[],8) else ({ s with Aa:=s.Aa++[EJ s c] },[],0)):=fun z=>fe (by
  have C:decide (((s.Aa.length:Nat):Int)>=8)=decide (8<=s.Aa.length):=decide_eq_decide.2 (by omega);have D:=JO (n:=s.Aa.length+1) (k:=120) (by have:=h.QA;omega) (by decide);have F:=JO (n:=s.Aa.length) (k:=120) (by have:=h.QA;omega) (by decide);simp only[ND,DN,C,D,F,List.nil_append,Nat.zero_add,Bool.and_self,cond_true];cases decide (8<=s.Aa.length)<;>rfl)
 have b1:∀z,AY ND (.b1 s z)=some (s,[],0):=fun z=>fe (by simp only[ND,DN,cond_true]);have b2:∀z,AY ND (.b2 ev now s (EJ s c) z)=some (bif c.Kind==2 then ((FP { s with Aa:=[] } (EJ s c) ev now).1,[(FP { s with Aa:=[] } (EJ s c) ev now).2],0) else
   bif decide (s.Own>=0)||(decide (0<s.Aa.length) || !(!(c.Kind==0||c.Kind==1)||((s.Ak.length:Int)==0))) then (bif decide (8<=s.Aa.length) then (s,[],8) else ({ s with Aa:=s.Aa++[EJ s c] },[],0)) else
   ((FP s (EJ s c) ev now).1,[(FP s (EJ s c) ev now).2],0)):=fun z=>fe (by
  have w:decide (((s.Aa.length:Nat):Int)>0)=decide (0<s.Aa.length):=decide_eq_decide.2 (by omega);simp only[ND,DN,cond_true,A,w,e_can,b3 s _ h.pen,b3 { s with Aa:=[] } _ h.pen,b4,Option.bind_some];cases c.Kind==2<;>cases decide (s.Own>=0)<;>cases decide (0<s.Aa.length)<;>cases (!(c.Kind==0||c.Kind==1)||((s.Ak.length:Int)==0))<;>rfl)
 refine fe ?_;simp only[ND,DN,cond_true,I,hc,ZpG,ZmY s _ h.QA h.rol,A,Option.bind_some,Bool.not_true,cond_false,Bool.not_not,b1,b2];unfold TQ;cases e != 0<;>cases RF s c.Kind<;>cases c.Kind==12<;>cases s.FX<;>rfl
def IJ (a:Bd) (p:BB):Bd×Int:=bif (bif p.CQ==1 then ((p.Payload.length:Nat):Int)==0 else false) then (a,1) else bif decide (((p.Payload.length:Nat):Int)>251) then (a,1) else bif I7 ⟨0,0,0,p⟩ != 0 then (a,1) else bif decide (((a.Aq.length:Nat):Int)>=64) then (a,8) else ({ a with Aq:=a.Aq++[p] },0)
theorem ZzM (a:Bd) (p:BB) (q:TW a.Aq) (C:p.Payload.length<=100000):Z1n a p=some (IJ a p):=fe (by
 have A:=JO (n:=a.Aq.length+1) (k:=32) (by have:=q.1;omega) (by decide);have hb:ZV p=some (bif p.CQ==1 then ((p.Payload.length:Nat):Int)==0 else false):=fe (by
  simp only[Z7c,DN,cond_true];cases (p.CQ==1)<;>rfl)
 have b1:∀z,AY nO (.b1 a p z)=some (bif decide (((a.Aq.length:Nat):Int)>=64) then (a,8) else ({ a with Aq:=a.Aq++[p] },0)):=fun z=>fe (by
  simp only[nO,DN,ZcM p C,A,Option.bind_some,cond_true];cases decide (((a.Aq.length:Nat):Int)>=64)<;>rfl)
 simp only[nO,DN,cond_true,v_own a q,hb,Z76,Option.bind_some,b1];unfold IJ;cases (bif p.CQ==1 then ((p.Payload.length:Nat):Int)==0 else false)<;>cases decide (((p.Payload.length:Nat):Int)>251)<;>cases I7 ⟨0,0,0,p⟩ != 0<;>rfl)
theorem ZAr (a:Bd) (p:BB) (q:TW a.Aq):YN a p=some (IJ a p):=fe (by
 have A:=JO (n:=a.Aq.length+1) (k:=32) (by have:=q.1;omega) (by decide);have C:=JO (n:=a.Aq.length) (k:=32) (by have:=q.1;omega) (by decide);have hb:XT p=some (bif p.CQ==1 then ((p.Payload.length:Nat):Int)==0 else false):=fe (by
  simp only[Z0F,DN,cond_true];cases (p.CQ==1)<;>rfl)
 have b1:∀z,AY YE (.b1 a p z)=some (bif decide (((a.Aq.length:Nat):Int)>=64) then (a,8) else ({ a with Aq:=a.Aq++[p] },0)):=fun z=>fe (by
  simp only[YE,DN,A,C,List.nil_append,Nat.zero_add,cond_true];cases decide (((a.Aq.length:Nat):Int)>=64)<;>rfl)
 simp only[YE,DN,cond_true,hb,Zam,Option.bind_some,b1];unfold IJ;cases (bif p.CQ==1 then ((p.Payload.length:Nat):Int)==0 else false)<;>cases decide (((p.Payload.length:Nat):Int)>251)<;>cases I7 ⟨0,0,0,p⟩ != 0<;>rfl)
def Kt (l:Ac) (p:BB):Ac×Int:=bif p.CQ != 2&&p.CQ != 1 then (l,1) else bif I7 ⟨0,0,0,p⟩ != 0 then (l,I7 ⟨0,0,0,p⟩) else bif decide (((p.Payload.length:Nat):Int)>l.AB.Length) then (l,4) else bif N7 l.AB then (l,20) else bif (IJ l.Ag p).2 != 0 then (l,(IJ l.Ag p).2) else ({ l with Ag:=(IJ l.Ag p).1 },0)
theorem Zw7 (l:Ac) (p:BB) (q:TW l.Ag.Aq):o9 l p=some (Kt l p):=fe (by
 have b1:∀z,AY aI (.b1 l p z)=some (bif I7 ⟨0,0,0,p⟩ != 0 then (l,I7 ⟨0,0,0,p⟩) else bif decide (((p.Payload.length:Nat):Int)>l.AB.Length) then (l,4) else bif N7 l.AB then (l,20) else bif (IJ l.Ag p).2 != 0 then (l,(IJ l.Ag p).2) else ({ l with Ag:=(IJ l.Ag p).1 },0)):=fun z=>fe (by
  simp only[aI,DN,cond_true,Zam,Zve,ZAr l.Ag p q,Option.bind_some];cases I7 ⟨0,0,0,p⟩ != 0<;>cases decide (((p.Payload.length:Nat):Int)>l.AB.Length)<;>cases N7 l.AB<;>cases (IJ l.Ag p).2 != 0<;>rfl)
 simp only[aI,DN,cond_true,b1];unfold Kt;cases p.CQ != 2<;>cases p.CQ != 1<;>rfl)
theorem Zzq (l:Ac) (z:List BD) (p:BB) (C:TW l.Ag.Aq) (A:p.Payload.length<=100000):Z8 p ⟨l,z⟩=some ⟨(Kt l p).2,⟨(Kt l p).1,z⟩,l.Ag.Aq⟩:=fe (by
 have b1:AY jY (.b1 ⟨l,z⟩ p)=some ⟨(bif I7 ⟨0,0,0,p⟩ != 0 then (l,I7 ⟨0,0,0,p⟩) else bif decide (((p.Payload.length:Nat):Int)>l.AB.Length) then (l,4) else bif N7 l.AB then (l,20) else bif (IJ l.Ag p).2 != 0 then (l,(IJ l.Ag p).2) else ({ l with Ag:=(IJ l.Ag p).1 },0)).2,⟨(bif I7 ⟨0,0,0,p⟩ != 0 then (l,I7 ⟨0,0,0,p⟩) else bif decide (((p.Payload.length:Nat):Int)>l.AB.Length) then (l,4) else bif N7 l.AB then (l,20) else bif (IJ l.Ag p).2 != 0 then (l,(IJ l.Ag p).2) else ({ l with Ag:=(IJ l.Ag p).1 },0)).1,z⟩,l.Ag.Aq⟩:=fe (by
  simp only[jY,DN,Z76,ZB2,ZzM l.Ag p C A,Option.bind_some,Bool.and_self,cond_true];cases I7 ⟨0,0,0,p⟩ != 0<;>cases decide (((p.Payload.length:Nat):Int)>l.AB.Length)<;>cases N7 l.AB<;>cases (IJ l.Ag p).2 != 0<;>rfl)
 simp only[jY,DN,Bool.and_self,cond_true,b1];unfold Kt;cases p.CQ != 2<;>cases p.CQ != 1<;>rfl)
theorem ZAb (l:Ac) (p:BB) (h:(Kt l p).2≠0):(Kt l p).1=l:=by
 revert h;unfold Kt;cases (p.CQ != 2&&p.CQ != 1)<;>cases I7 ⟨0,0,0,p⟩ != 0<;>cases decide (((p.Payload.length:Nat):Int)>l.AB.Length)<;>cases N7 l.AB<;>cases (IJ l.Ag p).2 != 0<;>first|exact fun _=>rfl|exact fun h=>absurd rfl h
theorem e_New (a k p q:Int) (F:JD k) (G:JD p) (I:JD q):Z0s a k p q=bJ a k p q:=by
 have A:∀x∈[p,q],JD x:=fun x A=>by
  simp only[List.mem_cons,List.not_mem_nil,or_false]at A;rcases A with rfl|rfl<;>assumption
 have C:=Zq6 k (⟨#[115,101,115,115,105,111,110]⟩:ByteArray) [p,q] (by decide) A (by simp);have D:=Zp7 k F (⟨#[115,101,115,115,105,111,110]⟩:ByteArray) [p,q] (by decide) A (by simp);have b1:∀(r:Int) z,AY lI (.b1 r k p q z)=some ⟨r,rY k (⟨#[115,101,115,115,105,111,110]⟩:ByteArray) [p,q],bits .xor .u64 p q,false,false,0,0⟩:=fun r z=>fe (by
  simp only[lI,DN,cond_true,C,Option.bind_some])
 refine(fe ?_).trans (fe rfl).symm;simp only[lI,Z2G,DN,cond_true,D,Option.bind_some,b1]
 by_cases h:a=1
 ·rw[h];rfl
 ·rw[beq_false_of_ne h,show (a != 1)=true by simpa using h];rfl
def Jk (s:A7) (b:Bool) (n:Int):A7×List AL:=bif s.BR != 1 then (s,[]) else bif s.ER != 0 then (s,[]) else bif s.CJ != 1 then (s,[]) else bif b then ({ s with CE:=n,CJ:=3 },[⟨4,Ba,0,0,0,0,n,0,0,0,0⟩,⟨5,Ba,0,0,0,0,0,0,0,0,0⟩]) else ({ s with Other:=-1,CJ:=0 },[⟨13,Ba,0,0,6,3,0,0,0,0,0⟩])
theorem ZyZ (s:A7) (b:Bool) (n:Int) (h:KO s):yL s b n=some (Jk s b n):=fe (by
 have q:XF s 0 0=some ⟨⟨s,0,0,[],[]⟩⟩:=fe (by
  simp only[Z09,DN,Zd3 _ (Nat.le_trans h.QA (by decide)),qV _ (Nat.le_trans h.pen (by decide)),Option.bind_some,Bool.and_self,cond_true])
 have b1:∀z,AY UC (.b1 z ⟨s,0,0,[],[]⟩)=some (s,[]):=fun z=>fe (by simp only[UC,DN,cond_true]);have b2:∀z,AY UC (.b2 b n z ⟨s,0,0,[],[]⟩)=some (bif b then ({ s with CE:=n,CJ:=3 },[⟨4,Ba,0,0,0,0,n,0,0,0,0⟩,⟨5,Ba,0,0,0,0,0,0,0,0,0⟩]) else ({ s with Other:=-1,CJ:=0 },[⟨13,Ba,0,0,6,3,0,0,0,0,0⟩])):=fun z=>fe (by
  simp only[UC,DN,cond_true];cases b<;>rfl)
 simp only[UC,DN,q,Z2J,Option.bind_some,Bool.and_self,cond_true,b1,b2];unfold Jk;cases s.BR != 1<;>cases s.ER != 0<;>cases s.CJ != 1<;>rfl)
theorem Zyy (s:A7) (b:Bool) (n:Int):lY s b n=some (Jk s b n):=fe (by
 have q:∀c,Lh c=some [c]:=fun c=>fe rfl;have b1:∀z,AY Xj (.b1 b n s z)=some (bif b then ({ s with CE:=n,CJ:=3 },[⟨4,Ba,0,0,0,0,n,0,0,0,0⟩,⟨5,Ba,0,0,0,0,0,0,0,0,0⟩]) else ({ s with Other:=-1,CJ:=0 },[⟨13,Ba,0,0,6,3,0,0,0,0,0⟩])):=fun z=>fe (by
  simp only[Xj,DN,cond_true,q,Option.bind_some];cases b<;>rfl)
 simp only[Xj,DN,cond_true,b1];unfold Jk;cases s.BR != 1<;>cases s.ER != 0<;>cases s.CJ != 1<;>rfl)
theorem ZDO (s:A7) (b:Bool) (n:Int):(Jk s b n).2.length<=2/\(Jk s b n).1.GK=s.GK/\((Jk s b n).1.CE=s.CE\/(Jk s b n).1.CE=n):=by
 unfold Jk;cases s.BR != 1<;>cases s.ER != 0<;>cases s.CJ != 1<;>cases b<;>first|exact⟨by simp,rfl,.inl rfl⟩|exact⟨by simp,rfl,.inr rfl⟩
def Po (n:Int):Int:=if 2147483647<n then 2147483647 else n
theorem Zzr (n:Int) (h:Bv n):XW n=some (Po n):=fe (by
 obtain⟨q,z⟩:=h;simp only[Z0I,DN,cond_true];unfold Po
 by_cases h:2147483647<n
 ·rw[decide_eq_true (show n>2147483647 by omega),if_pos h];rfl
 ·rw[decide_eq_false (show ¬n>2147483647 by omega),if_neg h,cond_false,Ll (by omega) (by omega)])
theorem ZEv (n:Int) (h:Bv n):AV (if 2147483647<n then 2147483647 else n)=Po n:=by
 obtain⟨q,z⟩:=h;unfold Po;split
 ·exact Ll (by omega) (by omega)
 ·exact Ll (by omega) (by omega)
theorem ZEQ (n:Int) (h:Bv n):0<=Po n/\Po n<=2147483647:=by
 obtain⟨q,z⟩:=h;unfold Po;split<;>omega
def I64 (x:Int):Prop:=-9223372036854775808<=x/\x<=9223372036854775807
def RI (u:DT):Prop:=I64 u.EX/\I64 u.EW/\I64 u.Dp/\I64 u.Dq/\I64 u.Ei
theorem wi {x:Int} (h:I64 x):AV (IntKind.wrap .u64 x)=x:=by
 obtain⟨q,z⟩:=h;simp only[AV,IntKind.wrap,IntKind.signed,IntKind.bits];simp;omega
def cn (n:Int):Int:=if 65536<(if 0>n then 0 else n) then 65536 else (if 0>n then 0 else n)
theorem Z34 (t:BC):Wv t=some (cn t.Good,cn t.FN):=fe rfl
theorem Z3g (n:Int):Ol n=some (cn n):=fe (by
 simp only[Z1C,DN,cond_true];unfold cn;congr 1;split<;>split<;>split<;>first|omega|(split<;>omega))
def JV (t:BC):Int:=bif AV (cn t.Good+cn t.FN)==0 then 0 else AV (Int.tdiv (AV (cn t.FN*1000)) (AV (cn t.Good+cn t.FN)))
theorem Ze7 (t:BC):XR t=some (JV t):=fe (by
 simp only[Z8p,DN,cond_true,Z34,Option.bind_some];unfold JV;rw[show (AV (cn t.Good+cn t.FN) != 0) = !(AV (cn t.Good+cn t.FN)==0) from rfl];cases AV (cn t.Good+cn t.FN)==0<;>rfl)
theorem Z3y (t:BC):Uk t=some (JV t):=fe (by
 simp only[Z1S,DN,cond_true,Z3g,Option.bind_some];unfold JV;rw[show (AV (cn t.Good+cn t.FN) != 0) = !(AV (cn t.Good+cn t.FN)==0) from rfl];cases AV (cn t.Good+cn t.FN)==0<;>rfl)
def MR (t:BC):Bool:=bif decide (AV (cn t.Good+cn t.FN)>=8) then decide (JV t>=250) else false
theorem v_Bad (t:BC):Z0K t=some (MR t):=fe (by
 simp only[Z9j,DN,cond_true,Z34,Ze7,Option.bind_some];unfold MR;cases decide (AV (cn t.Good+cn t.FN)>=8)<;>rfl)
theorem ZD7 (t:BC):qN t=some (MR t):=fe (by
 simp only[Z2O,DN,cond_true,Z3g,Z3y,Option.bind_some];unfold MR;cases decide (AV (cn t.Good+cn t.FN)>=8)<;>rfl)
def Ho (t:BC):BC:=⟨AV (Int.tdiv (cn t.Good) 2),AV (Int.tdiv (cn t.FN) 2)⟩
theorem ZvR (l:List BC) (C:l.length<=1000):Z0g l=some ⟨l⟩:=fe (by
 have:=sZ;have:=qL;have q:decide (0<=((l.length:Nat):Int)/\((l.length:Nat):Int)<=((l.length:Nat):Int)/\Int.toNat ((l.length:Nat):Int)*16<=lim/\((l.length:Nat):Int)<=((maxLen:Nat):Int))=true:=decide_eq_true ⟨by omega,by omega,by omega,by omega⟩;have z:l.take (List.replicate (Int.toNat ((l.length:Nat):Int)) (⟨0,0⟩:BC)).length++(List.replicate (Int.toNat ((l.length:Nat):Int)) (⟨0,0⟩:BC)).drop l.length=l:=by
  rw[List.length_replicate,Int.toNat_natCast,List.take_length,List.drop_eq_nil_of_le (by rw[List.length_replicate];omega),List.append_nil]
 have A:(l.length==(List.replicate (Int.toNat ((l.length:Nat):Int)) (⟨0,0⟩:BC)).length)=true:=by rw[List.length_replicate,Int.toNat_natCast];exact beq_self_eq_true _
 simp only[Z7o,DN,q,z,A,cond_true])
theorem ZBh (l:List BC) (N:l.length<=1000):Z0d l=some (l.map Ho):=fe (by
 have key:∀d i:Nat,i+d=l.length->AY XD (.b1 ((l.take i).map Ho++l.drop i) ((l.take i).map Ho++l.drop i) (l.length:Nat) i)=some (l.map Ho):=by
  intro d;induction d with
  | zero=>
   intro i M;obtain rfl:i=l.length:=by omega
   refine fe ?_;simp only[XD,DN,cond_true,Int.lt_irrefl,decide_false,cond_false];rw[List.take_length,List.drop_length,List.append_nil]
  | succ d Q=>
   intro i M;have A:i<l.length:=by omega
   have z:((l.take i).map Ho).length=i:=by rw[List.length_map,List.length_take];omega
   have O:=List.drop_eq_getElem_cons A;have e:(l.take (i+1)).map Ho=(l.take i).map Ho++[Ho l[i]]:=by rw[List.take_succ_eq_append_getElem A,List.map_append];rfl
   have q :=Q (i+1) (by omega);rw[e,List.append_assoc]at q;rw[O];generalize S:(l.take i).map Ho=pre at z q ⊢;generalize l.drop (i+1)=post at q ⊢;have G:decide ((0:Int)<=(i:Int)/\(i:Int)<(((pre++l[i]::post).length:Nat):Int))=true:=decide_eq_true ⟨by omega,by rw[List.length_append,List.length_cons];omega⟩;have I:decide ((i:Int)<((l.length:Nat):Int))=true:=decide_eq_true (by omega);have J:decide (0<=i)=true:=decide_eq_true (by omega);have C:(pre++l[i]::post)[i]? = some l[i]:=by rw[List.getElem?_append_right (by omega),z,Nat.sub_self];rfl
   have D:(pre++l[i]::post).set i (⟨AV (Int.tdiv (cn l[i].Good) 2),AV (Int.tdiv (cn l[i].FN) 2)⟩:BC)=pre++Ho l[i]::post:=by
    subst z;simp[Ho]
   have F:((pre++Ho l[i]::post).length==(pre++l[i]::post).length)=true:=by simp
   refine fe ?_;simp only[XD,DN,G,I,J,cond_true,Int.toNat_natCast,C,D,F,Z34,Option.bind_some,NT,Bool.and_self,SK i (by omega)];exact q
 simp only[XD,DN,ZvR l N,Option.bind_some,NT,Bool.and_self,cond_true];exact key l.length 0 (by omega))
theorem Zz9 (l:List BC) (I:l.length<=1000):nJ l=some (l.map Ho):=fe (by
 have key:∀d i:Nat,i+d=l.length->AY Ub (.b1 l ((l.take i).map Ho) i)=some (l.map Ho):=by
  intro d;induction d with
  | zero=>
   intro i F;obtain rfl:i=l.length:=by omega
   refine fe ?_;simp only[Ub,DN,cond_true,Int.lt_irrefl,decide_false,cond_false];rw[List.take_length]
  | succ d G=>
   intro i F;have z:i<l.length:=by omega
   have J:((l.take i).map Ho).length=i:=by rw[List.length_map,List.length_take];omega
   have e:(l.take (i+1)).map Ho=(l.take i).map Ho++[Ho l[i]]:=by rw[List.take_succ_eq_append_getElem z,List.map_append];rfl
   have q :=G (i+1) (by omega);rw[e]at q;have A:=JO (n:=((l.take i).map Ho).length+1) (k:=16) (by omega) (by decide);have C:decide ((0:Int)<=(i:Int)/\(i:Int)<((l.length:Nat):Int))=true:=decide_eq_true ⟨by omega,by omega⟩;have D:decide ((i:Int)<((l.length:Nat):Int))=true:=decide_eq_true (by omega);refine fe ?_;simp only[Ub,DN,C,D,A,cond_true,Int.toNat_natCast,List.getElem?_eq_getElem z,Z3g,Option.bind_some,SK i (by omega)];exact q
 simp only[Ub,DN,cond_true];exact key l.length 0 (by omega))
def Fh (l:List BC) (c:Nat):BC:=(l[c]?).getD ⟨0,0⟩
theorem v_Of (l:List BC) (c:Nat):VL l (c:Int)=some (Fh l c):=fe (by
 have b1:∀z,AY VE (.b1 z)=some ⟨0,0⟩:=fun z=>fe rfl;have b2:∀z,c<l.length->AY VE (.b2 l (c:Int) z)=some (Fh l c):=fun z h=>fe (by
  have q:decide ((0:Int)<=(c:Int)/\(c:Int)<((l.length:Nat):Int))=true:=decide_eq_true ⟨by omega,by omega⟩;simp only[VE,DN,q,cond_true,Int.toNat_natCast,List.getElem?_eq_getElem h,Option.bind_some];unfold Fh;rw[List.getElem?_eq_getElem h];rfl)
 simp only[VE,DN,cond_true,b1];rw[decide_eq_false (show ¬(c:Int)<0 by omega)]
 by_cases h:c<l.length
 ·rw[decide_eq_false (show ¬(c:Int)>=((l.length:Nat):Int) by omega)];exact b2 _ h
 ·rw[decide_eq_true (show (c:Int)>=((l.length:Nat):Int) by omega)];unfold Fh;rw[List.getElem?_eq_none (by omega)];rfl)
def TY (l:List BC) (cs:List Nat) (q : Option Nat) (i:Nat):Option Nat:=
 bif MR (Fh l (cs.getD i 0)) then (match q with
  | none=>some i
  | some j=>bif decide (JV (Fh l (cs.getD i 0))>JV (Fh l (cs.getD j 0))) then some i else some j) else q
def FW (l:List BC) (cs:List Nat):Nat->Option Nat
 | 0=>none
 | n+1=>TY l cs (FW l cs n) n
theorem Zee (l:List BC) (cs:List Nat):∀n j,FW l cs n=some j->j<n:=by
 intro n;induction n with
 | zero=>intro j h;cases h
 | succ n A=>
  intro j h;rw[FW,TY.eq_def]at h;cases hb:MR (Fh l (cs.getD n 0)) with
  | false=>rw[hb]at h;exact Nat.lt_succ_of_lt (A j h)
  | true=>
   rw[hb]at h;cases q:FW l cs n with
   | none=>rw[q]at h;cases h;exact Nat.lt_succ_self _
   | some i=>
    rw[q]at h;simp only[cond_true]at h;cases z:decide (JV (Fh l (cs.getD n 0))>JV (Fh l (cs.getD i 0))) with
    | true=>rw[z]at h;cases h;exact Nat.lt_succ_self _
    | false=>rw[z]at h;cases h;exact Nat.lt_succ_of_lt (A _ q)
def oI (o:Option Nat):Int:=match o with|none=>-1|some j=>(j:Int)
def iL (cs:List Nat):List Int:=cs.map fun c:Nat=>(c:Int)
theorem sG (cs:List Nat) (i:Nat) (h:i<cs.length):(iL cs)[i]? = some ((cs.getD i 0:Nat):Int):=by
 unfold iL;rw[List.getElem?_map,List.getElem?_eq_getElem h,List.getD_eq_getElem?_getD,List.getElem?_eq_getElem h];rfl
theorem ZAX (l:List BC) (cs:List Nat) (hc:cs.length<=1000):nT l (iL cs)=some (oI (FW l cs cs.length)):=fe (by
 have z:(iL cs).length=cs.length:=by unfold iL;rw[List.length_map]
 have key:∀d i:Nat,i+d=cs.length->AY Nr (.b1 l (iL cs) (oI (FW l cs i)) i)=some (oI (FW l cs cs.length)):=by
  intro d;induction d with
  | zero=>
   intro i Q;obtain rfl:i=cs.length:=by omega
   refine fe ?_;simp only[Nr,DN,cond_true,z,Int.lt_irrefl,decide_false,cond_false]
  | succ d S=>
   intro i Q;have F:i<cs.length:=by omega
   have C :=S (i+1) (by omega);have G:decide ((0:Int)<=(i:Int)/\(i:Int)<(((iL cs).length:Nat):Int))=true:=decide_eq_true ⟨by omega,by omega⟩;have I:decide ((i:Int)<(((iL cs).length:Nat):Int))=true:=decide_eq_true (by omega);have b2:∀a,a=oI (FW l cs (i+1))->AY Nr (.b2 l (iL cs) a i)=some (oI (FW l cs cs.length)):=fun a O=>fe (by
    subst O;simp only[Nr,DN,cond_true,SK i (by omega)];exact C)
   have b3:FW l cs (i+1)=some i->AY Nr (.b3 l (iL cs) i)=some (oI (FW l cs cs.length)):=fun h=>fe (by
    simp only[Nr,DN,cond_true];exact b2 _ (by rw[h];rfl))
   have q:FW l cs (i+1)=TY l cs (FW l cs i) i:=rfl;rw[TY.eq_def]at q;refine fe ?_;simp only[Nr,DN,G,I,cond_true,Int.toNat_natCast,sG cs i F,v_Of,ZD7,Z3y,Option.bind_some];cases hb:MR (Fh l (cs.getD i 0)) with
   | false=>
    rw[hb]at q;exact b2 _ (by rw[q];rfl)
   | true=>
    rw[hb]at q;cases A:FW l cs i with
    | none=>
     rw[A]at q;exact b3 q
    | some j=>
     rw[A]at q;have Y:=Zee l cs i j A;have J:decide ((oI (some j))<0)=false:=decide_eq_false (by show ¬(j:Int)<0;omega);have M:decide ((0:Int)<=oI (some j)/\oI (some j)<(((iL cs).length:Nat):Int))=true:=decide_eq_true (by show (0:Int)<=(j:Int)/\(j:Int)<_;omega);have N:(iL cs)[Int.toNat (oI (some j))]? = some ((cs.getD j 0:Nat):Int):=sG cs j (by omega);simp only[J,M,N,Bool.not_true,cond_false,cond_true,v_Of,Z3y,Option.bind_some];simp only[cond_true]at q;cases D:decide (JV (Fh l (cs.getD i 0))>JV (Fh l (cs.getD j 0))) with
     | true=>rw[D]at q;exact b3 q
     | false=>rw[D]at q;exact b2 _ (by rw[q];rfl)
 simp only[Nr,DN,cond_true];exact key cs.length 0 (by omega))
def oC (cs:List Nat) (o:Option Nat):Int:=match o with|none=>-1|some j=>((cs.getD j 0:Nat):Int)
theorem ZdA (l:List BC) (c:Nat) (h:¬c<l.length):MR (Fh l c)=false:=by
 unfold Fh;rw[List.getElem?_eq_none (by omega)];decide +kernel
theorem ZDp (l:List BC) (m:Int) (cs:List Nat) (hm:kW m=some (iL cs)) (hc:cs.length<=1000):yG l m=some (oC cs (FW l cs cs.length)):=fe (by
 have F:(iL cs).length=cs.length:=by unfold iL;rw[List.length_map]
 have C:∀i j,FW l cs i=some j->MR (Fh l (cs.getD j 0))=true:=by
  intro i;induction i with
  | zero=>intro j h;cases h
  | succ i G=>
   intro j h;rw[FW,TY.eq_def]at h;cases hb:MR (Fh l (cs.getD i 0)) with
   | false=>rw[hb]at h;exact G j h
   | true=>
    rw[hb]at h;cases A:FW l cs i with
    | none=>rw[A]at h;cases h;exact hb
    | some k=>
     rw[A]at h;simp only[cond_true]at h;cases D:decide (JV (Fh l (cs.getD i 0))>JV (Fh l (cs.getD k 0))) with
     | true=>rw[D]at h;cases h;exact hb
     | false=>rw[D]at h;cases h;exact G _ A
 have N:∀c,MR (Fh l c)=true->c<l.length:=fun c h=>Decidable.byContradiction fun hn=>by rw[ZdA l c hn]at h;cases h
 have O:∀c,c<l.length->l[c]? = some (Fh l c):=fun c h=>by unfold Fh;rw[List.getElem?_eq_getElem h];rfl
 have key:∀d i:Nat,i+d=cs.length->AY MX (.b1 l (oC cs (FW l cs i)) (iL cs) (cs.length:Nat) i)=some (oC cs (FW l cs cs.length)):=by
  intro d;induction d with
  | zero=>
   intro i hi;obtain rfl:i=cs.length:=by omega
   refine fe ?_;simp only[MX,DN,cond_true,Int.lt_irrefl,decide_false,cond_false]
  | succ d G=>
   intro i hi;have S:i<cs.length:=by omega
   have M :=G (i+1) (by omega);have Y:decide ((0:Int)<=(i:Int)/\(i:Int)<(((iL cs).length:Nat):Int))=true:=decide_eq_true ⟨by omega,by omega⟩;have h3:decide ((i:Int)<((cs.length:Nat):Int))=true:=decide_eq_true (by omega);have b2:∀a,a=oC cs (FW l cs (i+1))->AY MX (.b2 l a (iL cs) (cs.length:Nat) i)=some (oC cs (FW l cs cs.length)):=fun a J=>fe (by
    subst J;simp only[MX,DN,cond_true,SK i (by omega)];exact M)
   have b4:∀a,a=oC cs (FW l cs (i+1))->AY MX (.b4 l a (iL cs) (cs.length:Nat) i)=some (oC cs (FW l cs cs.length)):=fun a J=>fe (by
    simp only[MX,DN,cond_true];exact b2 a J)
   have q:FW l cs (i+1)=TY l cs (FW l cs i) i:=rfl;rw[TY.eq_def]at q;refine fe ?_;simp only[MX,DN,Y,h3,cond_true,Int.toNat_natCast,sG cs i S,Option.bind_some]
   by_cases z:cs.getD i 0<l.length
   ·have I:decide (((cs.getD i 0:Nat):Int)>=((l.length:Nat):Int))=false:=decide_eq_false (by omega);have Q:decide ((0:Int)<=((cs.getD i 0:Nat):Int)/\((cs.getD i 0:Nat):Int)<((l.length:Nat):Int))=true:=decide_eq_true ⟨by omega,by omega⟩;simp only[I,Q,cond_false,cond_true,Int.toNat_natCast,O _ z,v_Bad,Option.bind_some];cases hb:MR (Fh l (cs.getD i 0)) with
    | false=>
     rw[hb]at q;exact b2 _ (by rw[q];rfl)
    | true=>
     rw[hb]at q;cases A:FW l cs i with
     | none=>
      rw[A]at q;refine fe ?_;simp only[MX,DN,cond_true];exact b4 _ (by rw[q];rfl)
     | some j=>
      rw[A]at q;have hj:=N _ (C i j A);have h6:decide (oC cs (some j)<0)=false:=decide_eq_false (by show ¬((cs.getD j 0:Nat):Int)<0;omega);have h7:decide ((0:Int)<=oC cs (some j)/\oC cs (some j)<((l.length:Nat):Int))=true:=decide_eq_true (by show (0:Int)<=((cs.getD j 0:Nat):Int)/\((cs.getD j 0:Nat):Int)<_;omega);have h8:l[Int.toNat (oC cs (some j))]? = some (Fh l (cs.getD j 0)):=O _ hj;refine fe ?_;simp only[MX,DN,Q,h6,h7,h8,cond_false,cond_true,Int.toNat_natCast,O _ z,Ze7,Option.bind_some];simp only[cond_true]at q;cases D:decide (JV (Fh l (cs.getD i 0))>JV (Fh l (cs.getD j 0))) with
      | true=>rw[D]at q;exact b4 _ (by rw[q];rfl)
      | false=>rw[D]at q;exact b2 _ (by rw[q];rfl)
   ·have I:decide (((cs.getD i 0:Nat):Int)>=((l.length:Nat):Int))=true:=decide_eq_true (by omega);rw[I];rw[ZdA l _ z]at q;exact b2 _ (by rw[q];rfl)
 simp only[MX,DN,cond_true,hm,F,Option.bind_some];exact key cs.length 0 (by omega))
theorem Zdj (n c:Nat) (q:n<18446744073709551616):hasB (n:Int) c=n.testBit c:=by
 rw[VJ n c q,Nat.testBit_eq_decide_div_mod_eq];rcases Nat.mod_two_eq_zero_or_one (n / 2 ^ c) with h|h<;>simp[h]
def Tf (n c:Nat):Nat:=n &&& (18446744073709551615 - 2 ^ c)
theorem ZEk (n c x:Nat) (hc:c<64) (z:x<64):(Tf n c).testBit x=(!(x==c)&&n.testBit x):=by
 have h:2 ^ c<2 ^ 64:=Nat.pow_lt_pow_right (by decide) hc;have e:18446744073709551615 - 2 ^ c=2 ^ 64 - (2 ^ c+1):=by omega
 unfold Tf;rw[Nat.testBit_and,e,Nat.testBit_two_pow_sub_succ h,Nat.testBit_two_pow,Bool.and_comm]
 by_cases q:x=c
 ·subst q;simp
 ·have:decide (c=x)=false:=decide_eq_false fun h=>q h.symm;rw[this,beq_false_of_ne q,decide_eq_true z];rfl
theorem Zei (n c:Nat):Tf n c<=n:=Nat.and_le_left
theorem ZBE (n c:Nat) (z:n<18446744073709551616) (hc:c<37):Cj ((Tf n c:Nat):Int) 37=(Cj (n:Int) 37).filter fun x=>!(x==c):=by
 have:=Zei n c;unfold Cj;rw[List.filter_filter];refine List.filter_congr fun x q=>?_;have q:x<37:=List.mem_range.1 q;rw[Zdj _ _ (by omega),Zdj _ _ z,ZEk _ _ _ (by omega) (by omega)]
theorem ZzA (m:Int):(Cj m 37).Pairwise (· < ·):=List.Pairwise.filter _ List.pairwise_lt_range
theorem Zun (cs:List Nat) (G:cs.Pairwise (· < ·)) (j:Nat) (z:j<cs.length):(cs.filter fun x=>!(x==cs.getD j 0))=cs.take j++cs.drop (j+1):=by
 have e:cs=cs.take j++cs[j]::cs.drop (j+1):=by rw[<- List.drop_eq_getElem_cons z,List.take_append_drop]
 have g:cs.getD j 0=cs[j]:=by rw[List.getD_eq_getElem?_getD,List.getElem?_eq_getElem z];rfl
 rw[g];generalize hc:cs[j]=c at e;generalize cs.take j=A at e ⊢;generalize cs.drop (j+1)=B at e ⊢;subst e;obtain⟨-,C,D⟩:=List.pairwise_append.1 G;obtain⟨F,-⟩:=List.pairwise_cons.1 C;rw[List.filter_append,List.filter_cons,List.filter_eq_self.2 (fun x q=>by
  have:=D x q c List.mem_cons_self;rw[beq_false_of_ne (by omega)];rfl),List.filter_eq_self.2 (fun x q=>by
  have:=F x q;rw[beq_false_of_ne (by omega)];rfl)]
 simp
def JS (cs:List Nat):Nat:=(cs.map (2 ^ ·)).sum
theorem Ze4 (n k:Nat) (z:n<18446744073709551616):JS (Cj (n:Int) k)=n % 2 ^ k:=by
 induction k with
 | zero=>rw[Nat.pow_zero,Nat.mod_one];rfl
 | succ k q=>
  unfold JS at q ⊢;rw[qQ,List.map_append,List.sum_append,q,VJ n k z,Nat.mod_pow_succ];rcases Nat.mod_two_eq_zero_or_one (n / 2 ^ k) with h|h<;>simp[h]
theorem ZcX (cs:List Nat) (h:∀c∈cs,c<37) (O:JS cs<2 ^ 37) (N:cs.length<=1000):qR (iL cs)=some ((JS cs:Nat):Int):=fe (by
 have q:(iL cs).length=cs.length:=by unfold iL;rw[List.length_map]
 have key:∀d i:Nat,i+d=cs.length->AY VK (.b1 (iL cs) ((JS (cs.take i):Nat):Int) i)=some ((JS cs:Nat):Int):=by
  intro d;induction d with
  | zero=>
   intro i I;obtain rfl:i=cs.length:=by omega
   refine fe ?_;simp only[VK,DN,cond_true,q,Int.lt_irrefl,decide_false,cond_false];rw[List.take_length]
  | succ d J=>
   intro i I;have z:i<cs.length:=by omega
   have A :=J (i+1) (by omega);have G:cs.getD i 0=cs[i]:=by rw[List.getD_eq_getElem?_getD,List.getElem?_eq_getElem z];rfl
   have hc:=h cs[i] (List.getElem_mem z);have e:JS (cs.take (i+1))=JS (cs.take i)+2 ^ cs[i]:=by
    unfold JS;rw[List.take_succ_eq_append_getElem z,List.map_append,List.sum_append];simp
   have M:JS cs=JS (cs.take (i+1))+JS (cs.drop (i+1)):=by
    unfold JS;rw[<- List.sum_append,<- List.map_append,List.take_append_drop]
   have C:decide ((0:Int)<=(i:Int)/\(i:Int)<(((iL cs).length:Nat):Int))=true:=decide_eq_true ⟨by omega,by omega⟩;have D:decide ((i:Int)<(((iL cs).length:Nat):Int))=true:=decide_eq_true (by omega);have F:IntKind.wrap .u64 (((JS (cs.take i):Nat):Int)+((2 ^ cs[i]:Nat):Int))=((JS (cs.take (i+1)):Nat):Int):=by
    rw[e,<- Int.natCast_add,Qk (by omega)]
   refine fe ?_;simp only[VK,DN,C,D,cond_true,Int.toNat_natCast,sG cs i z,G,Z1a cs[i] (by omega),Option.bind_some,SK i (by omega)];rw[F];exact A
 simp only[VK,DN,cond_true];exact key cs.length 0 (by omega))
theorem ZDa (m:Int):kW m=some (iL (Cj m 37)):=rfl
theorem ZBS (l:List BC) (hl:l.length<=1000):∀(d n:Nat),(Cj (n:Int) 37).length<=d->n<2 ^ 37->∃r:Nat,r<2 ^ 37/\AY Ri (.b1 l n 2)=some (r:Int)/\AY Me (.b1 l 2 (iL (Cj (n:Int) 37)))=some (r:Int):=by
 intro d;induction d with
 | zero=>
  intro n hd J;have h0:Cj (n:Int) 37=[]:=List.length_eq_zero_iff.1 (by omega);have hc:cnt (n:Int)=0:=by unfold cnt;rw[h0];rfl
  have S:=Ze4 n 37 (by omega);have O:=ZcX (Cj (n:Int) 37) (by rw[h0];intro c hc;cases hc) (by rw[S];exact Nat.mod_lt _ (by decide)) (by rw[h0];decide);rw[S,Nat.mod_eq_of_lt J]at O;refine⟨n,J,fe ?_,fe ?_⟩
  ·simp only[Ri,DN,cond_true,Z03 n (by omega),hc,Option.bind_some];rfl
  ·have hf:decide ((((iL (Cj (n:Int) 37)).length:Nat):Int)>2)=false:=by rw[h0];rfl
   simp only[Me,DN,cond_true,hf,cond_false];refine fe ?_;simp only[Me,DN,cond_true,O,Option.bind_some]
 | succ d ih=>
  intro n hd J;have hle:(Cj (n:Int) 37).length<=37:=Z3T (n:Int) 37;have N:∀c∈Cj (n:Int) 37,c<37:=fun c hc=>List.mem_range.1 (List.mem_filter.1 hc).1;have Y:=ZzA (n:Int);have hcl:=fun c hc=>ZBE n c (by omega) hc;have S:=Ze4 n 37 (by omega);have O:=ZcX (Cj (n:Int) 37) N (by rw[S];exact Nat.mod_lt _ (by decide)) (by omega);rw[S,Nat.mod_eq_of_lt J]at O;have G:cnt (n:Int)=(((Cj (n:Int) 37).length:Nat):Int):=rfl;have C:=ZDp l (n:Int) (Cj (n:Int) 37) (ZDa _) (by omega);have D:=ZAX l (Cj (n:Int) 37) (by omega);have hw2:=Zee l (Cj (n:Int) 37) (Cj (n:Int) 37).length;have q:=Z03 n (by omega);generalize hcs:Cj (n:Int) 37=cs at *;have z:(iL cs).length=cs.length:=by unfold iL;rw[List.length_map]
  have F:AY Me (.b2 (iL cs))=some (n:Int):=fe (by
   simp only[Me,DN,cond_true,O,Option.bind_some])
  by_cases I:((cs.length:Nat):Int)>2
  ·cases hw:FW l cs cs.length with
   | none=>
    rw[hw]at C D;refine⟨n,J,fe ?_,fe ?_⟩
    ·simp only[Ri,DN,q,G,C,decide_eq_true I,cond_true,Option.bind_some];rfl
    ·simp only[Me,DN,z,D,decide_eq_true I,cond_true,Option.bind_some];exact F
   | some j=>
    rw[hw]at C D;have hj:=hw2 j hw;have hg:cs.getD j 0=cs[j]:=by rw[List.getD_eq_getElem?_getD,List.getElem?_eq_getElem hj];rfl
    have hc:cs.getD j 0<37:=by rw[hg];exact N _ (List.getElem_mem hj)
    have M:=Zun cs Y j hj;have A:=hcl _ hc;rw[M]at A;have hnl:(Cj ((Tf n (cs.getD j 0):Nat):Int) 37).length<=d:=by
     rw[A,List.length_append,List.length_take,List.length_drop];omega
    have hcle:=Zei n (cs.getD j 0);obtain⟨r,r1,r2,r3⟩:=ih (Tf n (cs.getD j 0)) hnl (by omega);rw[A]at r3;have Q:(2:Nat) ^ (cs.getD j 0)<18446744073709551616:=by
     have:(2:Nat) ^ (cs.getD j 0)<2 ^ 64:=Nat.pow_lt_pow_right (by decide) (by omega);simpa using this
    have hsh:IntKind.wrap .u64 ((1:Int)*2 ^ (min (Int.toNat ((cs.getD j 0:Nat):Int)) (IntKind.bits .u64)))=((2 ^ (cs.getD j 0):Nat):Int):=by
     rw[Int.toNat_natCast,Nat.min_eq_left (show cs.getD j 0<=IntKind.bits .u64 by show cs.getD j 0<=64;omega),Int.one_mul,show (2:Int) ^ (cs.getD j 0)=((2 ^ (cs.getD j 0):Nat):Int) by simp,Qk Q]
    have han:bits .andNot .u64 (n:Int) ((2 ^ (cs.getD j 0):Nat):Int)=((Tf n (cs.getD j 0):Nat):Int):=u64_andNot_nat _ _ (by omega) Q;refine⟨r,r1,fe ?_,fe ?_⟩
    ·have o1:oC cs (some j)=((cs.getD j 0:Nat):Int):=rfl;have d1:decide (((cs.getD j 0:Nat):Int)<0)=false:=decide_eq_false (by omega);have d2:decide (0<=((cs.getD j 0:Nat):Int))=true:=decide_eq_true (by omega);simp only[Ri,DN,q,G,C,o1,d1,d2,decide_eq_true I,cond_true,cond_false,Option.bind_some,hsh,han];exact r2
    ·have o1:oI (some j)=(j:Int):=rfl;have d1:decide ((j:Int)<0)=false:=decide_eq_false (by omega);have d2:decide ((0:Int)<=(j:Int)/\(j:Int)<=((cs.length:Nat):Int))=true:=decide_eq_true ⟨by omega,by omega⟩;have d3:decide ((0:Int)<=((j+1:Nat):Int)/\((j+1:Nat):Int)<=((cs.length:Nat):Int))=true:=decide_eq_true ⟨by omega,by omega⟩;have x1:(List.drop 0 (iL cs)).take (j - 0)=iL (cs.take j):=by unfold iL;rw[List.drop_zero,Nat.sub_zero,List.map_take]
     have x2:(List.drop (j+1) (iL cs)).take (cs.length - (j+1))=iL (cs.drop (j+1)):=by
      rw[List.take_of_length_le (by rw[List.length_drop,z];exact Nat.le_refl _)];unfold iL;rw[List.map_drop]
     have x3:iL (cs.take j++cs.drop (j+1))=iL (cs.take j)++iL (cs.drop (j+1)):=by unfold iL;rw[List.map_append]
     have l1:(iL (cs.take j)).length<=1000:=by unfold iL;rw[List.length_map,List.length_take];omega
     have l2:(iL (cs.drop (j+1))).length<=1000:=by unfold iL;rw[List.length_map,List.length_drop];omega
     have k1:=JO (n:=(iL (cs.take j)).length) (k:=8) (by omega) (by decide);have k2:=JO (n:=(iL (cs.take j)).length+(iL (cs.drop (j+1))).length) (k:=8) (by omega) (by decide);simp only[Me,DN,z,D,o1,d1,d2,d3,x1,x2,k1,k2,SK j (by omega),decide_eq_true I,cond_true,cond_false,Option.bind_some,Int.toNat_natCast,List.nil_append,Nat.zero_add];rw[<- x3];exact r3
  ·refine⟨n,J,fe ?_,fe ?_⟩
   ·simp only[Ri,DN,cond_true,q,G,decide_eq_false I,cond_false,Option.bind_some]
   ·simp only[Me,DN,cond_true,z,decide_eq_false I,cond_false];exact F
theorem ZxT (l:List BC) (A:l.length<=1000) (m:Int) (hm:Bv m):∃r,ZE l m 2=some r/\lV l m 2=some r/\Bv r:=by
 obtain⟨n,rfl⟩:=Int.eq_ofNat_of_zero_le hm.1;have q:n<18446744073709551616:=by have:=hm.2;omega
 have hc:Cj ((n % 2 ^ 37:Nat):Int) 37=Cj (n:Int) 37:=by
  unfold Cj;exact List.filter_congr fun x C=>ZzZ n x (List.mem_range.1 C) q
 obtain⟨r,F,D,z⟩:=ZBS l A 37 (n % 2 ^ 37) (Z3T _ 37) (Nat.mod_lt _ (by decide));refine⟨r,fe ?_,fe ?_,⟨by omega,by omega⟩⟩
 ·simp only[Ri,DN,cond_true,ZdB n q];exact D
 ·simp only[Me,DN,cond_true,Zbg n q,Option.bind_some];rw[hc]at z;exact z
theorem ZCM:EF 0=some ⟨true,true,false,true,false,false,false,false,false,false,false⟩:=by
 rcases Sl 0 with ⟨q,z⟩|⟨q,z⟩|⟨q,z⟩|⟨q,z⟩|⟨q,z⟩|⟨q,z⟩|⟨q,z⟩|⟨q,z⟩|⟨q,z⟩|⟨q,z⟩|⟨q,z⟩|⟨q,z⟩|⟨q,z⟩<;>first|exact q|(exfalso;omega)
theorem ZD6:EF 1=some ⟨true,false,true,true,false,false,false,false,false,false,false⟩:=by
 rcases Sl 1 with ⟨q,z⟩|⟨q,z⟩|⟨q,z⟩|⟨q,z⟩|⟨q,z⟩|⟨q,z⟩|⟨q,z⟩|⟨q,z⟩|⟨q,z⟩|⟨q,z⟩|⟨q,z⟩|⟨q,z⟩|⟨q,z⟩<;>first|exact q|(exfalso;omega)
theorem ZAF:EF 2=some ⟨true,false,false,false,true,false,false,false,false,false,false⟩:=by
 rcases Sl 2 with ⟨q,z⟩|⟨q,z⟩|⟨q,z⟩|⟨q,z⟩|⟨q,z⟩|⟨q,z⟩|⟨q,z⟩|⟨q,z⟩|⟨q,z⟩|⟨q,z⟩|⟨q,z⟩|⟨q,z⟩|⟨q,z⟩<;>first|exact q|(exfalso;omega)
theorem ZEA:EF 15=some ⟨true,true,false,false,false,false,false,false,false,false,false⟩:=by
 rcases Sl 15 with ⟨q,z⟩|⟨q,z⟩|⟨q,z⟩|⟨q,z⟩|⟨q,z⟩|⟨q,z⟩|⟨q,z⟩|⟨q,z⟩|⟨q,z⟩|⟨q,z⟩|⟨q,z⟩|⟨q,z⟩|⟨q,z⟩<;>first|exact q|(exfalso;omega)
theorem ZEb:EF 20=some ⟨true,false,false,false,false,false,false,false,false,false,true⟩:=by
 rcases Sl 20 with ⟨q,z⟩|⟨q,z⟩|⟨q,z⟩|⟨q,z⟩|⟨q,z⟩|⟨q,z⟩|⟨q,z⟩|⟨q,z⟩|⟨q,z⟩|⟨q,z⟩|⟨q,z⟩|⟨q,z⟩|⟨q,z⟩<;>first|exact q|(exfalso;omega)
theorem z0:(0:Int)<=0/\(0:Int)<18446744073709551616:=⟨by decide,by decide⟩
def RJ (c:AL) (e:Int):Prop:=XB c=some e/\Nj c=some e
theorem nz (x:Int):(bif (true&&(x != 0)) then x else 0)=x:=by
 by_cases h:x=0
 ·rw[h];rfl
 ·rw[show (x != 0)=true by simpa using h];rfl
theorem ZEF (u:DT) (h:RI u):RJ ⟨0,u,0,0,0,0,0,0,0,0,0⟩ (IX u):=by
 have F:QP=some ():=rfl;obtain⟨q,z,A,C,D⟩:=h;refine⟨fe ?_,?_⟩
 ·simp only[IL,DN,F,Option.bind_some,KD,KG,KH,wi q,wi z,wi A,wi C,wi D,show IntKind.wrap .u16 (IntKind.wrap .u64 0)=0 from rfl,I9,Int.reduceBEq,beq_self_eq_true,Bool.not_true,cond_true,cond_false]
 ·rw[Rq _ _ ZCM z0];exact congrArg some (nz _)
theorem ZD9 (u:DT) (h:RI u):RJ ⟨15,u,0,0,0,0,0,0,0,0,0⟩ (IX u):=by
 have F:QP=some ():=rfl;obtain⟨q,z,A,C,D⟩:=h;refine⟨fe ?_,?_⟩
 ·simp only[IL,DN,F,Option.bind_some,KJ,KI,KE,wi q,wi z,wi A,wi C,wi D,I9,Int.reduceBEq,beq_self_eq_true,Bool.not_true,cond_true,cond_false]
 ·rw[Rq _ _ ZEA z0];exact congrArg some (nz _)
theorem Ze6 (m:Int) (h:Bv m):RJ ⟨1,Ba,m,0,0,0,0,0,0,0,0⟩ (JF m):=by
 have q:QP=some ():=rfl;refine⟨fe ?_,?_⟩
 ·simp only[IL,DN,q,Option.bind_some,KC,KF,Zat (⟨1,Ba,m,0,0,0,0,0,0,0,0⟩:AL) h,show IntKind.wrap .u16 (IntKind.wrap .u64 0)=0 from rfl,I9,Int.reduceBEq,beq_self_eq_true,Bool.not_true,cond_true,cond_false]
 ·rw[Rq (⟨1,Ba,m,0,0,0,0,0,0,0,0⟩:AL) _ ZD6 h];exact congrArg some (nz _)
theorem ZBQ (r:Int) (h:0<=r/\r<=2147483647):RJ ⟨2,Ba,0,0,r,0,0,0,0,0,0⟩ (Ik r 0 255):=by
 have z:QP=some ():=rfl;refine⟨fe ?_,?_⟩
 ·simp only[IL,DN,z,Option.bind_some,Jv,Js,Ju,ww h.1 (by omega),I9,Int.reduceBEq,beq_self_eq_true,Bool.not_true,cond_true,cond_false]
 ·rw[Rq _ _ ZAF z0];refine congrArg some ?_;show (bif !I5 r then (5:Int) else 0)=_;unfold I5 Ik;rw[decide_eq_true (show r>=0 from h.1),decide_eq_false (show ¬r<0 by omega)]
  by_cases q:r<=255
  ·rw[decide_eq_true q,decide_eq_false (show ¬r>255 by omega)];rfl
  ·rw[decide_eq_false q,decide_eq_true (show r>255 by omega)];rfl
theorem ZEx (n:Int) (h:0<=n/\n<=2147483647):RJ ⟨20,Ba,0,0,0,0,0,0,0,0,n⟩ (Ik n 27 251):=by
 have q:QP=some ():=rfl;refine⟨fe ?_,?_⟩
 ·simp only[IL,DN,q,Option.bind_some,Jy,KA,Jw,ww h.1 (by omega),I9,Int.reduceBEq,beq_self_eq_true,Bool.not_true,cond_true,cond_false]
 ·rw[Rq _ _ ZEb z0];refine congrArg some ?_;show (bif true&&(decide (n<27)||decide (n>251)) then (5:Int) else 0)=_;unfold Ik;cases decide (n<27)<;>cases decide (n>251)<;>rfl
theorem uI {c:AL} (h:CV c):RJ c 0:=⟨ZlC h,Zs4 h⟩
def RN (l:Ac):Int:=IntKind.wrap .u16 (l.Event+IntKind.wrap .u16 l.CZ.BG.Dq)
def WC (l:Ac) (r:A7×List AL×Int):Ac×Int:=bif r.2.2 != 0 then (l,r.2.2) else ({ l with AB:=r.1,Aw:=l.Aw++r.2.1 },0)
theorem ZAe (s:A7) (c:AL) (e ev now:Int):(TQ s c e ev now).2.1.length<=1:=by
 unfold TQ;cases e != 0<;>cases RF s c.Kind<;>cases (c.Kind==12&&s.FX)<;>cases c.Kind==2<;>cases (decide (s.Own>=0)||(decide (0<s.Aa.length) || !(!(c.Kind==0||c.Kind==1)||((s.Ak.length:Int)==0))))<;>cases decide (8<=s.Aa.length)<;>simp
structure BgOK (l:Ac) (c:AL) (now:Int) (r:Ac×Int):Prop where
 doc:Jz l c now=some r
 prog:Mc c now ⟨l,[]⟩=some ⟨r.2,⟨r.1,[]⟩,l.AB.Aa,l.AB.Ak⟩
 prog2:xI c now ⟨l,[]⟩=some ⟨r.2,⟨r.1,[]⟩,l.AB.Aa,l.AB.Ak⟩
 err:r.2≠0->r.1=l
 tal:r.1.BI=l.BI
theorem v_beg (l:Ac) (c:AL) (now e:Int) (h:KO l.AB) (F:R16 l.Event) (D:l.Aw.length<=1000000) (G:c.Kind=0\/c.Kind=1\/c.Kind=2\/c.Kind=3\/c.Kind=8\/c.Kind=12\/c.Kind=15\/c.Kind=18\/c.Kind=20)
  (hc:RJ (EJ l.AB c) e):∃r,BgOK l c now r:=by
 have z:∀a n:Int,UX a n=some (IntKind.wrap .u16 (a+IntKind.wrap .u16 n)):=fun a n=>fe rfl;have q:iZ (nM ⟨l,[]⟩)=some (RN l):=fe (by
  simp only[Z5s,DN,cond_true,z,Option.bind_some];rfl)
 have A:YC l=some (RN l):=fe (by
  simp only[Z1I,DN,cond_true,<- Z8Z l.Event l.CZ.BG.Dq F,z,Option.bind_some];rfl)
 have C:r16 (RN l):=by unfold RN r16;rw[uU];omega
 obtain⟨k1,k2⟩:=ZBb c.Kind G;have s1:=ZBj l.AB c e (RN l) now h k1 hc.1;have s2:=ZrU l.AB c e (RN l) now h C k2 hc.2;have I:=ZAe l.AB c e (RN l) now;generalize TQ l.AB c e (RN l) now=r at s1 s2 I;have x1:=JO (n:=l.Aw.length+r.2.1.length) (k:=120) (by omega) (by decide);have J:=JO (n:=l.Aw.length) (k:=120) (by omega) (by decide);refine⟨WC l r,fe ?_,fe ?_,fe ?_,?_,?_⟩
 ·simp only[Z1e,DN,A,s2,x1,J,List.nil_append,Nat.zero_add,Option.bind_some,cond_true];unfold WC;cases r.2.2 != 0<;>rfl
 ·simp only[Z6D,DN,q,s1,x1,Bool.and_self,Option.bind_some,cond_true];unfold WC;cases r.2.2 != 0<;>rfl
 ·simp only[Z5S,DN,q,s1,x1,Bool.and_self,Option.bind_some,cond_true];unfold WC;cases r.2.2 != 0<;>rfl
 ·unfold WC;cases r.2.2 != 0
  ·exact fun h=>absurd rfl h
  ·exact fun _=>rfl
 ·unfold WC;cases r.2.2 != 0<;>rfl
structure DoOK (l:Ac) (a:EN) (now:Int) (x:Ac) (e:Int):Prop where
 doc:Nz l a now=some (x,e)
 prog:∃q w p t,kV a now ⟨l,[]⟩=some ⟨e,⟨x,[]⟩,q,w,p,t⟩
 err:e≠0->x=l
theorem v_enc (l:Ac) (a:EN) (now:Int) (r:Ac×Int) (C:a.Key≠0->BgOK l ⟨3,Ba,0,0,0,0,l.Eg,a.Number,0,0,0⟩ now r) :
  ∃y e,(∃w p,xM a now ⟨l,[]⟩=some ⟨e,⟨y,[]⟩,w,p⟩)/\(e≠0->y=l)/\(a.Key=0->y=l/\e=17)/\(a.Key≠0->e=r.2/\y=bif r.2==0 then { r.1 with Key:=a.Key } else r.1):=by
 by_cases h:a.Key=0
 ·refine⟨l,17,⟨l.AB.Aa,l.AB.Ak,fe ?_⟩,fun _=>rfl,fun _=>⟨rfl,rfl⟩,fun A=>absurd h A⟩;simp only[xB,DN,h,beq_self_eq_true,Bool.and_self,cond_true]
 ·have hb:=C h;refine⟨bif r.2==0 then { r.1 with Key:=a.Key } else r.1,r.2,⟨l.AB.Aa,l.AB.Ak,fe ?_⟩,fun q=>?_,fun z=>absurd z h,fun _=>⟨rfl,rfl⟩⟩
  ·simp only[xB,DN,beq_false_of_ne h,hb.prog,Option.bind_some,Bool.and_self,cond_true,cond_false];cases r.2==0<;>rfl
  ·rw[beq_false_of_ne q];exact hb.err q
theorem ZDD {k:Int} {l:Ac} (h:BQ k l) (h0:0<=k) (h1:k<=100000) (hr:l.Bq=0) (a:EN) (ha:Pz a) (hu:RI a.BG) (hl:a.BU.Payload.length<=4096) (now:Int):∃x e,DoOK l a now x e:=by
 obtain⟨g1,G,g3,g4,g5,g6,g7,g8,g9,M,g11⟩:=h;have N:KO l.AB:=⟨by have:=G.1;omega,G.2.1,by have:=G.2.2.2.2.2.2.2.2.1;exact this,G.2.2.2.2.2.2.2.2.2.1⟩;have hq:TW l.Ag.Aq:=⟨by have:=g1.2.2.1;omega,fun x hx=>by have:=(g1.2.2.2.1 x hx).2.2.2.1;omega⟩;have hcl:l.Aw.length<=1000000:=by omega
 have C:(l.Bq != 0)=false:=by rw[hr];rfl
 obtain⟨n1,Y,n3⟩:=ha.2;have nf:=Zzr a.Number Y;have nw:=ZEv a.Number Y;have nr:=ZEQ a.Number Y;have mk:∀(c:AL) (e:Int),(c.Kind=0\/c.Kind=1\/c.Kind=2\/c.Kind=3\/c.Kind=8\/c.Kind=12\/c.Kind=15\/c.Kind=18\/c.Kind=20)->RJ (EJ l.AB c) e->∃r,BgOK l c now r:=fun c e I hc=>v_beg l c now e N g8 hcl I hc;have z8:R8 11:=⟨by decide,by decide⟩;have D:=fun(x:Ac) (e:Int) (d:Nz l a now=some (x,e)) (p:∃q w p t,kV a now ⟨l,[]⟩=some ⟨e,⟨x,[]⟩,q,w,p,t⟩) (er:e≠0->x=l)=>(⟨x,e,d,p,er⟩:∃x e,DoOK l a now x e)
 by_cases k1:a.Kind=1
 ·refine D (Kt l a.BU).1 (Kt l a.BU).2 (fe ?_) ⟨l.Ag.Aq,(Kt l a.BU).1.AB.Aa,(Kt l a.BU).1.AB.Ak,(Kt l a.BU).1.BI,fe ?_⟩ (ZAb l a.BU)
  ·simp only[IB,DN,C,k1,Zw7 l a.BU hq,Option.bind_some,beq_self_eq_true,cond_true,cond_false]
  ·simp only[JZ,DN,cond_true,k1,Zzq l [] a.BU hq (by omega),Option.bind_some,beq_self_eq_true,Bool.and_self,cond_true]
 by_cases k2:a.Kind=2
 ·obtain⟨r,b⟩:=mk ⟨0,a.BG,0,0,0,0,0,0,0,0,0⟩ _ (.inl rfl) (ZEF _ hu);refine D r.1 r.2 (fe ?_) ⟨r.1.Ag.Aq,l.AB.Aa,l.AB.Ak,r.1.BI,fe ?_⟩ b.err
  ·simp only[IB,DN,C,k2,b.doc,Option.bind_some,Int.reduceBEq,beq_self_eq_true,cond_true,cond_false]
  ·simp only[JZ,DN,k2,b.prog,Option.bind_some,Int.reduceBEq,beq_self_eq_true,Bool.and_self,cond_true,cond_false]
 by_cases k3:a.Kind=3
 ·obtain⟨r,b⟩:=mk ⟨1,Ba,a.Map,0,0,0,0,0,0,0,0⟩ _ (.inr (.inl rfl)) (Ze6 _ n1);refine D r.1 r.2 (fe ?_) ⟨r.1.Ag.Aq,l.AB.Aa,l.AB.Ak,r.1.BI,fe ?_⟩ b.err
  ·simp only[IB,DN,C,k3,b.doc,Option.bind_some,Int.reduceBEq,beq_self_eq_true,cond_true,cond_false]
  ·simp only[JZ,DN,k3,b.prog,Option.bind_some,Int.reduceBEq,beq_self_eq_true,Bool.and_self,cond_true,cond_false]
 by_cases k4:a.Kind=4
 ·obtain⟨r,b⟩:=mk ⟨2,Ba,0,0,Po a.Number,0,0,0,0,0,0⟩ _ (.inr (.inr (.inl rfl))) (ZBQ _ nr);refine D r.1 r.2 (fe ?_) ⟨r.1.Ag.Aq,l.AB.Aa,l.AB.Ak,r.1.BI,fe ?_⟩ b.err
  ·simp only[IB,DN,C,k4,nf,b.doc,Option.bind_some,Int.reduceBEq,beq_self_eq_true,cond_true,cond_false]
  ·simp only[JZ,DN,k4,nw,b.prog,Option.bind_some,Int.reduceBEq,beq_self_eq_true,Bool.and_self,cond_true,cond_false]
 by_cases k6:a.Kind=6
 ·obtain⟨r,b⟩:=mk ⟨8,Ba,0,0,0,0,0,0,63,0,0⟩ 0 (.inr (.inr (.inr (.inr (.inl rfl))))) (uI (CV.vF 8 l.AB.DK (.inl rfl) G.2.2.2.2.1));refine D r.1 r.2 (fe ?_) ⟨r.1.Ag.Aq,l.AB.Aa,l.AB.Ak,r.1.BI,fe ?_⟩ b.err
  ·simp only[IB,DN,C,k6,b.doc,Option.bind_some,Int.reduceBEq,beq_self_eq_true,cond_true,cond_false]
  ·simp only[JZ,DN,k6,b.prog,Option.bind_some,Int.reduceBEq,beq_self_eq_true,Bool.and_self,cond_true,cond_false]
 by_cases k7:a.Kind=7
 ·obtain⟨r,b⟩:=mk ⟨12,Ba,0,0,0,0,0,0,0,11,0⟩ 0 (.inr (.inr (.inr (.inr (.inr (.inl rfl)))))) (uI (CV.iC 11 z8));refine D r.1 r.2 (fe ?_) ⟨r.1.Ag.Aq,l.AB.Aa,l.AB.Ak,r.1.BI,fe ?_⟩ b.err
  ·simp only[IB,DN,C,k7,b.doc,Option.bind_some,Int.reduceBEq,beq_self_eq_true,cond_true,cond_false]
  ·simp only[JZ,DN,k7,b.prog,Option.bind_some,Int.reduceBEq,beq_self_eq_true,Bool.and_self,cond_true,cond_false]
 by_cases k8:a.Kind=8
 ·obtain⟨r,b⟩:=mk ⟨18,Ba,0,0,0,0,0,0,0,0,0⟩ 0 (.inr (.inr (.inr (.inr (.inr (.inr (.inr (.inl rfl)))))))) (uI (CV.plain 18 (.inr (.inr (.inl rfl)))));refine D r.1 r.2 (fe ?_) ⟨r.1.Ag.Aq,l.AB.Aa,l.AB.Ak,r.1.BI,fe ?_⟩ b.err
  ·simp only[IB,DN,C,k8,b.doc,Option.bind_some,Int.reduceBEq,beq_self_eq_true,cond_true,cond_false]
  ·simp only[JZ,DN,k8,b.prog,Option.bind_some,Int.reduceBEq,beq_self_eq_true,Bool.and_self,cond_true,cond_false]
 by_cases k9:a.Kind=9
 ·obtain⟨r,b⟩:=mk ⟨20,Ba,0,0,0,0,0,0,0,0,Po a.Number⟩ _ (.inr (.inr (.inr (.inr (.inr (.inr (.inr (.inr rfl)))))))) (ZEx _ nr);refine D r.1 r.2 (fe ?_) ⟨r.1.Ag.Aq,l.AB.Aa,l.AB.Ak,r.1.BI,fe ?_⟩ b.err
  ·simp only[IB,DN,C,k9,nf,b.doc,Option.bind_some,Int.reduceBEq,beq_self_eq_true,cond_true,cond_false]
  ·simp only[JZ,DN,k9,nw,b.prog,Option.bind_some,Int.reduceBEq,beq_self_eq_true,Bool.and_self,cond_true,cond_false]
 by_cases k12:a.Kind=12
 ·obtain⟨r,b⟩:=mk ⟨15,a.BG,0,0,0,0,0,0,0,0,0⟩ _ (.inr (.inr (.inr (.inr (.inr (.inr (.inl rfl))))))) (ZD9 _ hu);refine D r.1 r.2 (fe ?_) ⟨r.1.Ag.Aq,l.AB.Aa,l.AB.Ak,r.1.BI,fe ?_⟩ b.err
  ·simp only[IB,DN,C,k12,b.doc,Option.bind_some,Int.reduceBEq,beq_self_eq_true,cond_true,cond_false]
  ·simp only[JZ,DN,k12,b.prog,Option.bind_some,Int.reduceBEq,beq_self_eq_true,Bool.and_self,cond_true,cond_false]
 have q1:=beq_false_of_ne k1;have q2:=beq_false_of_ne k2;have q3:=beq_false_of_ne k3;have q4:=beq_false_of_ne k4;have q6:=beq_false_of_ne k6;have q7:=beq_false_of_ne k7;have q8:=beq_false_of_ne k8;have q9:=beq_false_of_ne k9;have Q:=beq_false_of_ne k12
 by_cases k5:a.Kind=5
 ·obtain⟨r,b⟩:=mk ⟨3,Ba,0,0,0,0,l.Eg,a.Number,0,0,0⟩ 0 (.inr (.inr (.inr (.inl rfl)))) (uI (CV.enc _ _ M Y));obtain⟨y,e,⟨w,p,hp⟩,e1,F,e3⟩:=v_enc l a now r (fun _=>b);refine D y e (fe ?_) ⟨y.Ag.Aq,w,p,y.BI,fe ?_⟩ e1
  ·have b1:∀J z x,AY IB (.b1 J z x)=some (x,J):=fun _ _ _=>fe rfl;simp only[IB,DN,C,k5,b.doc,Option.bind_some,Int.reduceBEq,beq_self_eq_true,cond_true,cond_false,b1]
   by_cases I:a.Key=0
   ·obtain⟨rfl,rfl⟩:=F I;rw[I];rfl
   ·obtain⟨rfl,rfl⟩:=e3 I;rw[beq_false_of_ne I];cases r.2==0<;>rfl
  ·simp only[JZ,DN,k5,hp,Option.bind_some,Int.reduceBEq,beq_self_eq_true,Bool.and_self,cond_true,cond_false]
 have q5:=beq_false_of_ne k5
 by_cases k10:a.Kind=10
 ·have hA:=ZyZ l.AB (a.Key != 0) l.Eg N;have hB:=Zyy l.AB (a.Key != 0) l.Eg;obtain⟨z1,z2,z3⟩:=ZDO l.AB (a.Key != 0) l.Eg;have hP:JD (Jk l.AB (a.Key != 0) l.Eg).1.GK:=by rw[z2];exact G.2.2.2.2.2.2.1
  have hS:JD (Jk l.AB (a.Key != 0) l.Eg).1.CE:=by rcases z3 with z3|z3<;>rw[z3];exact G.2.2.2.2.2.1;exact M
  have hN:=e_New l.BR a.Key _ _ n3 hP hS;obtain⟨s,hs,-⟩:=ZcF l.BR a.Key (Jk l.AB (a.Key != 0) l.Eg).1.GK (Jk l.AB (a.Key != 0) l.Eg).1.CE hP hS;have hT1:∀s b c,Z0h s b c=some { s with Jq:=b,Jl:=c }:=fun _ _ _=>fe rfl;have hT2:∀s b c,Uf s b c=some { s with Jq:=b,Jl:=c }:=fun _ _ _=>fe rfl;generalize Jk l.AB (a.Key != 0) l.Eg=A at hA hB z1 hN hs;have x1:=JO (n:=l.Aw.length+A.2.length) (k:=120) (by omega) (by decide);have x2:=JO (n:=l.Aw.length) (k:=120) (by omega) (by decide);let y:Ac×Int:=bif l.BR != 1 then (l,9) else bif l.AB.CJ != 1 then (l,9) else bif a.Key != 0 then ({ l with AB:=A.1,Dk:={ s with Jq:=false,Jl:=true },Key:=a.Key,Aw:=l.Aw++A.2 },0) else ({ l with AB:=A.1,Aw:=l.Aw++A.2 },0)
  have e1:pM l a.Key=some y:=fe (by
   have b1:∀z,AY dF (.b1 a.Key l z)=some (bif a.Key != 0 then ({ l with AB:=A.1,Dk:={ s with Jq:=false,Jl:=true },Key:=a.Key,Aw:=l.Aw++A.2 },0) else ({ l with AB:=A.1,Aw:=l.Aw++A.2 },0)):=fun z=>fe (by
    simp only[dF,DN,hB,hs,hT2,x1,x2,List.nil_append,Nat.zero_add,Option.bind_some,cond_true];cases a.Key != 0<;>rfl)
   simp only[dF,DN,cond_true,b1];show _=some (bif l.BR != 1 then _ else _);cases l.BR != 1<;>cases l.AB.CJ != 1<;>rfl)
  have F:zI a.Key ⟨l,[]⟩=some ⟨y.2,⟨y.1,[]⟩,l.AB.Aa,l.AB.Ak⟩:=fe (by
   have b1:AY jO (.b1 a.Key ⟨l,[]⟩)=some ⟨0,⟨bif a.Key != 0 then { l with AB:=A.1,Dk:={ s with Jq:=false,Jl:=true },Key:=a.Key,Aw:=l.Aw++A.2 } else { l with AB:=A.1,Aw:=l.Aw++A.2 },[]⟩,l.AB.Aa,l.AB.Ak⟩:=fe (by
    simp only[jO,DN,hA,hN,hs,hT1,x1,Option.bind_some,Bool.and_self,cond_true];cases a.Key != 0<;>rfl)
   simp only[jO,DN,Bool.and_self,cond_true,b1];show _=some (⟨(bif l.BR != 1 then _ else _:Ac×Int).2,⟨(bif l.BR != 1 then _ else _:Ac×Int).1,[]⟩,_,_⟩:N9);cases l.BR != 1<;>cases l.AB.CJ != 1<;>cases a.Key != 0<;>rfl)
  refine D y.1 y.2 (fe ?_) ⟨y.1.Ag.Aq,l.AB.Aa,l.AB.Ak,y.1.BI,fe ?_⟩ ?_
  ·simp only[IB,DN,C,k10,e1,Option.bind_some,Int.reduceBEq,beq_self_eq_true,cond_true,cond_false]
  ·simp only[JZ,DN,k10,F,Option.bind_some,Int.reduceBEq,beq_self_eq_true,Bool.and_self,cond_true,cond_false]
  ·show (bif l.BR != 1 then _ else _:Ac×Int).2≠0->(bif l.BR != 1 then _ else _:Ac×Int).1=l;cases l.BR != 1<;>cases l.AB.CJ != 1<;>cases a.Key != 0<;>first|exact fun _=>rfl|exact fun h=>absurd rfl h
 have O:=beq_false_of_ne k10
 by_cases k13:a.Kind=13
 ·obtain⟨m,p1,p2,p3⟩:=ZxT l.BI (by omega) l.CZ.Map g4.2.2;obtain⟨r,b⟩:=mk ⟨1,Ba,m,0,0,0,0,0,0,0,0⟩ _ (.inr (.inl rfl)) (Ze6 _ p3);have d1:=ZBh l.BI (by omega);have d2:=Zz9 l.BI (by omega);let y:Ac×Int:=bif l.BR != 0 then (l,9) else bif m==l.CZ.Map then (l,0) else (bif r.2==0 then { r.1 with BI:=l.BI.map Ho } else r.1,r.2)
  have F:∃w p t,zX now ⟨l,[]⟩=some ⟨y.2,⟨y.1,[]⟩,w,p,t⟩:=by
   refine⟨l.AB.Aa,l.AB.Ak,l.BI,fe ?_⟩
   ·simp only[Z6z,DN,p1,b.prog2,b.tal,d1,Option.bind_some,Bool.and_self,cond_true];show _=some (⟨(bif l.BR != 0 then _ else _:Ac×Int).2,⟨(bif l.BR != 0 then _ else _:Ac×Int).1,[]⟩,_,_,_⟩:Nb);cases l.BR != 0<;>cases m==l.CZ.Map<;>cases r.2==0<;>rfl
  obtain⟨w,p,t,F⟩:=F;refine D y.1 y.2 (fe ?_) ⟨y.1.Ag.Aq,w,p,t,fe ?_⟩ ?_
  ·have b2:∀J z x,AY IB (.b2 J z x)=some (x,J):=fun _ _ _=>fe rfl;simp only[IB,DN,C,k13,p2,b.doc,d2,b2,Option.bind_some,Int.reduceBEq,beq_self_eq_true,cond_true,cond_false];show _=some ((bif l.BR != 0 then _ else _:Ac×Int).1,(bif l.BR != 0 then _ else _:Ac×Int).2);cases l.BR != 0<;>cases m==l.CZ.Map<;>cases r.2==0<;>rfl
  ·simp only[JZ,DN,k13,F,Option.bind_some,Int.reduceBEq,beq_self_eq_true,Bool.and_self,cond_true,cond_false]
  ·show (bif l.BR != 0 then _ else _:Ac×Int).2≠0->(bif l.BR != 0 then _ else _:Ac×Int).1=l;cases l.BR != 0
   ·cases m==l.CZ.Map
    ·show r.2≠0->(bif r.2==0 then _ else _:Ac)=l;exact fun h=>by rw[beq_false_of_ne h];exact b.err h
    ·exact fun h=>absurd rfl h
   ·exact fun _=>rfl
 have S:=beq_false_of_ne k13;refine D l 12 (fe ?_) ⟨l.Ag.Aq,l.AB.Aa,l.AB.Ak,l.BI,fe ?_⟩ (fun _=>rfl)
 ·simp only[IB,DN,cond_true,C,q1,q2,q3,q4,q5,q6,q7,q8,q9,O,Q,S,cond_false]
 ·simp only[JZ,DN,q1,q2,q3,q4,q5,q6,q7,q8,q9,O,Q,S,Bool.and_self,cond_true,cond_false]
theorem e_Do {k:Int} {l:Ac} (h:BQ k l) (D:0<=k) (Q:k<=100000) (a:EN) (F:Pz a) (hu:RI a.BG) (N:a.BU.Payload.length<=4096) (now:Int):∃y,Z2N l a now=some y/\Nz l a now=some y/\BQ (k+2) y.1:=by
 obtain⟨o,O,A⟩:=Zse k l h D (by omega);have z:∀w:Nl,yN w=some (w.Link.Bq==0):=fun w=>fe rfl;obtain⟨y,I,S⟩:=Z3d k l a now h ⟨⟨by omega,F.1⟩,N,F.2⟩ D (by omega);refine⟨y,?_,I,S⟩
 by_cases C:l.Bq=0
 ·obtain⟨x,e,d⟩:=ZDD h D Q C a F hu N now;have M:=d.doc;rw[I]at M;cases M;obtain⟨q,w,p,t,Y⟩:=d.prog;refine fe ?_;simp only[Z2x,DN,O,A,z,C,Y,Option.bind_some,beq_self_eq_true,Bool.not_true,Bool.and_self,cond_true,cond_false]
  by_cases G:e=0
  ·rw[G];rfl
  ·rw[show (e != 0)=true by simpa using G,d.err G];rfl
 ·have J:Nz l a now=some (l,9):=fe (by
   rw[show IB (.b0 l a now)=_ from rfl];simp only[IB,DN,show (l.Bq != 0)=true by simpa using C,cond_true])
  rw[I]at J;cases J;refine fe ?_;simp only[Z2x,DN,O,A,z,beq_false_of_ne C,Option.bind_some,Bool.not_false,Bool.and_self,cond_true]
theorem Zub:∀(k:Int) (p0:Ac),BQ k p0->0<=k->k<=1000000->∃r,Z1P p0=some r/\r=p0:=by
 refine fun k p0 D F G=>BK (fun(p:Yo)=>match p with | .b0 z=>BQ k z/\z=p0) (fun(p:Yo)=>(0,0,0)) ?_ _ ?_
 all_goals try (intro p hp;cases p)
 case' b0=>
  dsimp only at hp;have q:=hp
  try dsimp only[BQ,DX,BM,D5,CO,Eo,Eu,ES]at q
  simp only[Z2k];obtain⟨C,rfl⟩:=hp
  repeat' first|(refine Ea ?_;rfl)|(refine Dl ?_ ?_)|(refine Az (Zjh _ (by omega) (by grind)) (fun(v:List BB) hm A=>?_);subst A)
 all_goals
  try dsimp only at hp
  try exact False.elim hp
  try have q:=hp
  try dsimp only[BQ,DX,BM,D5,CO,Eo,Eu,ES]at q
  try (repeat with_reducible (have I:=And.left hp;replace hp:=And.right hp))
  try simp only[Z2k]
  try dsimp only
  repeat' first|(refine Ea ?_;dsimp only;try simp(disch:=omega) only[Bo,Bh,List.nil_append,List.drop_zero])|(refine FM (fun h=>?_) (fun h=>?_)<;>(try simp only[Fj,reduceCtorEq]at h;try simp(disch:=omega) only[Bo]at h))|refine Dl ?_ ?_|refine Gl ?_|with_reducible apply And.intro|rfl|assumption|exact True.intro|omega|exact decide_eq_true (GN _).1|exact GL (by assumption) (by omega)|exact Gj (by assumption) (by omega)|(refine FY.2 ?_;first|omega|grind)|(apply Gh;first|omega|(simp only[Bh];omega))|(simp only[Dy,Bh,Cb,maxLen_eq,kL,kA]<;>omega)|(simp(disch:=omega) only[Bo,decide_eq_true_eq,bne_iff_ne,ne_eq];(repeat' split)<;>omega)|(simp[D8,Ey];done)|grind|(simp only[Dy,Bh,Cb,maxLen_eq,kL,kA]<;>grind)|grind [EI]
theorem ZkB:∀(D:Il) (A:EN),ES D->Pz A->RI A.BG->∃r,Z6R D A=some r/\r=true:=by
 refine fun D A Y I J=>BK (fun(p:Wh)=>match p with | .b0 C q=>ES C/\Pz q/\RI q.BG | .b1 _ q F=>BQ 20000 F/\q.BU.Payload.length<=4096/\Pz q/\RI q.BG) (fun(p:Wh)=>match p with | .b0 ..=>(0,0,1) | .b1 ..=>(0,0,0)) ?_ _ ?_
 all_goals try (intro p hp;cases p)
 case' b1 C q F=>
  dsimp only at hp;have z:=hp
  try dsimp only[BQ,DX,BM,D5,CO,Eo,Eu,ES]at z
  simp only[ZL];obtain⟨G,M,N,O⟩:=hp;clear z;refine Dl (by first|rfl|(simp[kL,kA,Cb,maxLen_eq]<;>omega)) ?_;refine Dl (by simp[kL,kA,Cb,maxLen_eq]<;>omega) ?_;refine Az (Zub 20000 _ G (by omega) (by omega)) (fun(w:Ac) hm S=>?_);subst S;refine Dl (by simp[kL]) ?_;obtain⟨y,I,J,Q⟩:=e_Do G (by omega) (by omega) q N O M C;refine dV I (dV J ?_);refine FM (fun _=>?_) (fun h=>absurd h (by simp));exact dV (Zyh y.1 (Q.lwf (by omega))) (Ea rfl)
 all_goals
  try dsimp only at hp
  try exact False.elim hp
  try have z:=hp
  try dsimp only[BQ,DX,BM,D5,CO,Eo,Eu,ES]at z
  try (repeat with_reducible (have hq:=And.left hp;replace hp:=And.right hp))
  try simp only[ZL]
  try dsimp only
  repeat' first|(refine Ea ?_;dsimp only;try simp(disch:=omega) only[Bo,Bh,List.nil_append,List.drop_zero])|(refine FM (fun h=>?_) (fun h=>?_)<;>(try simp only[Fj,reduceCtorEq]at h;try simp(disch:=omega) only[Bo]at h))|refine Dl ?_ ?_|refine Gl ?_|(refine dV (a:=true) rfl ?_)|refine Az (ZkP _ ?_) fun(v:(Ac×Int×Bool)) hm hv=>?_|with_reducible apply And.intro|rfl|assumption|exact True.intro|omega|exact decide_eq_true (GN _).1|exact GL (by assumption) (by omega)|exact Gj (by assumption) (by omega)|(refine FY.2 ?_;first|omega|grind)|(apply Gh;first|omega|(simp only[Bh];omega))|(simp only[Dy,Bh,Cb,maxLen_eq,kL,kA]<;>omega)|(simp(disch:=omega) only[Bo,decide_eq_true_eq,bne_iff_ne,ne_eq];(repeat' split)<;>omega)|(simp[D8,Ey];done)|grind|(simp only[Dy,Bh,Cb,maxLen_eq,kL,kA]<;>grind)|grind [EI]
end Go.Proofs.YtjodhcdmhobmoaaGreatDoor
