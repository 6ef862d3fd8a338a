/- . -/
import Derived.Test.YtjodhcdmhobmoaaGreatDoorVQ2e
set_option linter.unusedVariables false
set_option linter.unusedSimpArgs false
namespace Go.Proofs.YtjodhcdmhobmoaaGreatDoor
open Go Go.Proofs.YtjodhcdmhobmoaaGreatDoor.Le
set_option maxRecDepth 100000
set_option linter.defProp false
set_option maxHeartbeats 40000000
open Go Go.Proofs.YtjodhcdmhobmoaaGreatDoor.Le Go.Proofs.YtjodhcdmhobmoaaGreatDoor.Na
theorem TC:(∀(z:FW),KL z->∃r,Z2W z=some r/\True) /\
  (∀(z:FW) (F D:Int),KL z->∃r,iG z F D=some r/\True) /\
  (∀(z F:Int) (D G:List Int),D.length<=100000->G.length<=100000->∃r,Z3a z F D G=some r/\r.length=G.length+4/\DZ r) /\
  (∀(z:A7) (F D:Int),BM z->R16 F->∃r,Z2t z F D=some r/\BM r.1/\r.2.length<=8/\FX r.2) /\
  (∀(z:A7) (F:AO) (D G:Int),BM z->CY F->R16 D->∃r,Z2U z F D G=some r/\BM r.1/\r.2.1.length<=1/\FX r.2.1) /\
  (∀(z F D G:Int),CU D->CU G->∃r,jA z F D G=some r/\Hr r) /\
  (∀(z F:Int) (D G:List Int),D.length<=65536->G.length<=65536->∃r,uV z F D G=some r/\r.1.length<=65536/\DZ r.1) /\
  (∀(z:A7) (F:AO) (D G:Int),BM z->CY F->∃r,Uh z F D G=some r/\BM r.1/\r.2.1.length<=8/\FX r.2.1/\r.2.2.length<=1):=by
 refine⟨fun z J=>CW (fun(p:dZ)=>match p with | .b0 q=>KL q | .b1 q=>KL q | .b2 q=>KL q) (fun(p:dZ)=>match p with | .b0 ..=>(0,0,2) | .b1 ..=>(0,0,1) | .b2 ..=>(0,0,0)) ?_ _ ?_,
  fun z F D J=>Cc (KL z) ?_ fun hp=>?_,
  fun z F D G J M=>Cc (G=G/\D.length<=100000/\G.length<=100000) ?_ fun hp=>?_,
  fun z F D J M=>CW (fun(p:dS)=>match p with | .b0 q I _=>BM q/\R16 I | .b1 q _ A C _=>A.length<=8/\FX A/\BM C/\A.length+C.Ah.length<=8/\R16 q | .b2 q _ A C _=>A.length<=8/\FX A/\BM C/\A.length+C.Ah.length<=8/\0<C.Ah.length/\R16 q | .b3 q I _=>q.length<=8/\FX q/\BM I | .b4 q _ A C _ N=>A.length<=8/\FX A/\BM C/\CV N/\A.length+C.Ah.length<=7/\R16 q) (fun(p:dS)=>match p with | .b0 ..=>(1,0,0) | .b1 _ _ _ C _=>(0,C.Ah.length,2) | .b2 _ _ _ C _=>(0,C.Ah.length,1) | .b3 ..=>(0,0,0) | .b4 _ _ _ C _ _=>(0,C.Ah.length,3)) ?_ _ ?_,
  fun z F D G J M O=>CW (fun(p:fD)=>match p with | .b0 q I A _=>BM q/\CY I/\R16 A | .b1 q _=>BM q | .b2 q _ A C _=>BM A/\CV C/\R16 q | .b3 q _ A C _=>BM A/\CV C/\R16 q | .b4 q I _=>BM q/\CV I) (fun(p:fD)=>match p with | .b0 ..=>(0,0,2) | .b2 ..=>(0,0,1)|_=>(0,0,0)) ?_ _ ?_,
  fun z F D G J M=>Cc (CU D/\CU G) ?_ fun hp=>?_,
  fun z F D G J M=>Cc (D.length<=65536/\G.length<=65536) ?_ fun hp=>?_,
  fun z F D G J M=>CW (fun(p:dE)=>match p with | .b0 q I _ _=>BM q/\CY I | .b1 _ _ A C _=>BM A/\CY C | .b2 _ _ A C _=>BM A/\CY C | .b3 q _=>BM q | .b4 _ I A _=>BM I/\CY A | .b5 _ _ A C _=>BM A/\CY C | .b6 q I _=>BM q/\CY I | .b7 _ _ A C _=>BM A/\CY C | .b8 q I _=>BM q/\CY I | .b9 q I _=>BM q/\CY I) (fun(p:dE)=>match p with | .b0 ..=>(0,0,4) | .b2 ..=>(0,0,3) | .b5 ..=>(0,0,2) | .b7 ..=>(0,0,1)|_=>(0,0,0)) ?_ _ ?_⟩
 all_goals try (intro p hp;cases p)
 all_goals
  try dsimp only at hp
  try exact False.elim hp
  try have hx:=hp
  try dsimp only[BR,Dl,BM,EE,Cb,F6,Fj,FB]at hx
  try (repeat with_reducible (have Q:=And.left hp;replace hp:=And.right hp))
  try simp only[ZbX,Z3p,ZdJ,Zc8,Zcc,Z3R,vP,I4]
  try dsimp only
  repeat' first|(refine FP ?_;dsimp only;try simp(disch:=omega) only[Ce,CZ,List.nil_append,List.drop_zero])|(refine GH (fun h=>?_) (fun h=>?_)<;>(try simp only[Ht,reduceCtorEq]at h;try simp(disch:=omega) only[Ce]at h))|refine EU ?_ ?_|refine Ii ?_|refine BA (Znn _) fun(v:Int) hm hv=>?_|refine BA (Zuj _) fun(v:Int) hm hv=>?_|refine BA (Zbx _ _ _) fun(v:Bool) hm hv=>?_|refine BA (Zz5 _ _ _) fun(v:Int) hm hv=>?_|refine BA (Zcv _) fun(v:Int) hm hv=>?_|refine BA (Zbn _ _) fun(v:Int) hm hv=>?_|refine BA (Zww _ _) fun(v:Int) hm hv=>?_|refine BA (Zu4 _ _) fun(v:Int) hm hv=>?_|refine BA (Zta _ _ _ ?_ ?_) fun(v:(List Int)) hm hv=>?_|refine BA (ZzM _ _ ?_) fun(v:Q7) hm hv=>?_|refine BA (ZAX _ _ _ _ ?_ ?_) fun(v:(List Int)) hm hv=>?_|refine BA (ZyQ _ _ ?_ ?_) fun(v:Bool) hm hv=>?_|refine Z4j ?_ fun v hv=>?_|refine BA (Zun _ _ _ _ ?_ ?_ ?_) fun(v:(A7×AO)) hm hv=>?_|refine BA (ZoN _) fun(v:Bool) hm hv=>?_|refine BA (ZrG _ _ ?_ ?_) fun(v:AO) hm hv=>?_|refine BA (Zcb _ ?_) fun(v:Int) hm hv=>?_|refine BA (Zqn _ _ ?_) fun(v:Bool) hm hv=>?_|refine BA (ZsE _ _ _ (by rfl) (by decide +kernel) ?_) fun(v:Int) hm hv=>?_|refine BA (Zwv _ _ ?_ ?_) fun(v:Bool) hm hv=>?_|refine BA (rW _) fun(v:CE) hm hv=>?_|refine BA (Zf4 _) fun(v:(List AO)) hm hv=>?_|refine BA (ZlO _ _ _ _ ?_ ?_) fun(v:A7) hm hv=>?_|refine BA (Znp _ _ _ ?_ ?_) fun(v:(A7×(List AO)×(List Am))) hm hv=>?_|refine BA (ZlC _ _ ?_ ?_) fun(v:(A7×(List AO)×(List Am))) hm hv=>?_|refine BA (Zmy _ _ _ ?_ ?_) fun(v:(A7×(List AO)×(List Am))) hm hv=>?_|refine BA (ZlD _ _ ?_ ?_) fun(v:(A7×(List AO)×(List Am))) hm hv=>?_|refine BA (ZnL _ _ ?_ ?_) fun(v:(A7×(List AO)×(List Am))) hm hv=>?_|with_reducible apply And.intro|rfl|assumption|exact True.intro|omega|exact decide_eq_true (IP _).1|exact IM (by assumption) (by omega)|exact Ih (by assumption) (by omega)|(refine Gu.2 ?_;first|omega|grind)|(apply IX;first|omega|(simp only[CZ];omega))|(simp only[Ei,CZ,D6,maxLen_eq,kL,kA]<;>omega)|(simp(disch:=omega) only[Ce,decide_eq_true_eq,bne_iff_ne,ne_eq];(repeat' split)<;>omega)|(simp[EJ,Fq];done)|grind|(simp only[Ei,CZ,D6,maxLen_eq,kL,kA]<;>grind)|grind [Ee]
def Zth:=TC.1
def Zw1:=TC.2.1
def Zxo:=TC.2.2.1
def Ztk:=TC.2.2.2.1
def ZuM:=TC.2.2.2.2.1
def Zen:=TC.2.2.2.2.2.1
def Zys:=TC.2.2.2.2.2.2.1
def Zbf:=TC.2.2.2.2.2.2.2
theorem Sz:(∀(q:Int) (C:FW) (G Q S p5:Int),KL C->CU Q->CU S->∃r,vV q C G Q S p5=some r/\((r.2=0->BR 0 r.1))) /\
  (∀(k:Int) (q:Ac),BR k q->0<=k->k<=1000000->∃r,bK q=some r/\True) /\
  (∀(q:Bc) (C:BI),Hr q->Cb C.Ap->∃r,Z3r q C=some r/\(Cb r.1.Ap/\(r.2=0->r.1.Ap.Payload.length<=255))) /\
  (∀(k:Int) (q:Ac) (C:Int),BR k q->0<=k->k<=900000->∃r,sK q C=some r/\BR (k+8) r.1) /\
  (∀(k:Int) (q:Ac) (C:AO) (G:Int),BR k q->CY C->0<=k->k<=1000000->∃r,NI q C G=some r/\BR (k+1) r.1) /\
  (∀(k:Int) (q:Ac) (C:Int),BR k q->0<=k->k<=1000000->CU C->∃r,Z3X q C=some r/\BR (k+2) r.1) /\
  (∀(q:Bc) (C:BI),Hr q->Cb C.Ap->∃r,uT q C=some r/\Cb r.1.Ap) /\
  (∀(k:Int) (q:Ac) (C:List Int) (G:Int),BR k q->0<=k->k<=1000000->C.length<=65536->DZ C->∃r,qV q C G=some r/\BR (k+8) r.1/\r.2.length<=1):=by
 refine⟨fun q C G Q S p5 I J M=>CW (fun(p:jF)=>match p with | .b0 _ A _ F N _=>KL A/\CU F/\CU N | .b2 z _ D F _ O _=>KL O/\Ee z/\CU D/\CU F | .b4 z _ D F _ O _=>KL O/\Ee z/\CU D/\CU F|_=>True) (fun(p:jF)=>match p with | .b0 ..=>(0,0,2) | .b2 ..=>(0,0,1)|_=>(0,0,0)) ?_ _ ?_,
  fun k q I J M=>Cc (BR k q) ?_ fun hp=>?_,
  fun q C I J=>CW (fun(p:iE)=>match p with | .b0 z A=>Hr z/\Cb A.Ap | .b1 z A _=>Hr z/\Cb A.Ap) (fun(p:iE)=>match p with | .b0 ..=>(0,0,1) | .b1 ..=>(0,0,0)) ?_ _ ?_,
  fun k q C I J M=>CW (fun(p:fJ)=>match p with | .b0 z _=>BR k z | .b1 _ _ D _=>BR k D | .b2 _ _ D _=>BR k D | .b3 _ _ _ F _=>BR k F | .b4 _ _ D _=>BR k D | .b5 _ A D F N _ _=>A.length<=4/\D.length<=1/\GG D/\BR k N/\(A.length:Int)=F/\0<=F/\F<=(D.length:Int) | .b6 z _ D _=>z.length<=4/\BR (k+8) D | .b7 z A _=>z.length<=4/\BR (k+8) A | .b8 _ A _ F _=>A.length<=4/\BR (k+8) F | .b9 z A _=>z.length<=4/\BR (k+8) A) (fun(p:fJ)=>match p with | .b0 ..=>(9,0,0) | .b1 ..=>(8,0,0) | .b2 ..=>(7,0,0) | .b3 ..=>(6,0,0) | .b4 ..=>(5,0,0) | .b5 _ _ D F _ _ _=>(4,((D.length:Int) - F).toNat,0) | .b6 ..=>(1,0,0) | .b8 ..=>(3,0,0)|_=>(2,0,0)) ?_ _ ?_,
  fun k q C G I J M Y=>Cc (BR k q/\CY C) ?_ fun hp=>?_,
  fun k q C I J M Y=>CW (fun(p:iJ)=>match p with | .b0 z A=>BR k z/\CU A | .b1 z A _=>BR k A/\CU z) (fun(p:iJ)=>match p with | .b0 ..=>(0,0,1) | .b1 ..=>(0,0,0)) ?_ _ ?_,
  fun q C I J=>CW (fun(p:gW)=>match p with | .b0 z A=>Hr z/\Cb A.Ap | .b1 z A _=>Hr z/\Cb A.Ap) (fun(p:gW)=>match p with | .b0 ..=>(0,0,1) | .b1 ..=>(0,0,0)) ?_ _ ?_,
  fun k q C G I J M Y h4=>CW (fun(p:bT)=>match p with | .b0 z A _=>BR k z/\A.length<=65536/\DZ A | .b1 z A _ F=>z.length<=1/\BR (k+8) A/\BM F | .b2 z A _=>z.length<=1/\BR (k+8) A) (fun(p:bT)=>match p with | .b0 ..=>(0,0,2) | .b1 ..=>(0,0,1) | .b2 ..=>(0,0,0)) ?_ _ ?_⟩
 all_goals try (intro p hp;cases p)
 all_goals
  try dsimp only at hp
  try exact False.elim hp
  try have hx:=hp
  try dsimp only[BR,Dl,BM,EE,Cb,F6,Fj,FB]at hx
  try (repeat with_reducible (have hq:=And.left hp;replace hp:=And.right hp))
  try simp only[Zfe,Z1A,Zej,ZcM,ZcF,Zfp,iF,PD]
  try dsimp only
  repeat' first|(refine FP ?_;dsimp only;try simp(disch:=omega) only[Ce,CZ,List.nil_append,List.drop_zero])|(refine GH (fun h=>?_) (fun h=>?_)<;>(try simp only[Ht,reduceCtorEq]at h;try simp(disch:=omega) only[Ce]at h))|refine EU ?_ ?_|refine Ii ?_|refine BA (Zth _ ?_) fun(v:Int) hm hv=>?_|refine BA (ZvF _ _) fun(v:QY) hm hv=>?_|refine BA (Zze) fun(v:BQ) hm hv=>?_|refine BA (Zfs _) fun(v:ET) hm hv=>?_|refine BA (Zzv _ _ _ ?_) fun(v:A7) hm hv=>?_|refine BA (Zu6) fun(v:(List BJ)) hm hv=>?_|refine BA (Zw1 _ _ _ ?_) fun(v:(Int×Int)) hm hv=>?_|refine BA (Z2s _) fun(v:Int) hm hv=>?_|refine BA (Z2X _) fun(v:Bool) hm hv=>?_|refine BA (ZtJ _ _ _ ?_) fun(v:Int) hm hv=>?_|refine BA (Zxo _ _ _ _ ?_ ?_) fun(v:(List Int)) hm hv=>?_|refine BA (Zwl _ _) fun(v:BI) hm hv=>?_|refine BA (Zcy k _ ?_ ?_ ?_) fun(v:Bool) hm hv=>?_|refine BA (ZwI _) fun(v:(ET×Int)) hm hv=>?_|refine BA (Zrw _ _) fun(v:ET) hm hv=>?_|refine BA (Zbz _ _ _ ?_) fun(v:(List BJ)) hm hv=>?_|refine BA (ZzB _ _ ?_) fun(v:(A7×(List BG))) hm hv=>?_|refine BA (Zvf k _ _ ?_ ?_ ?_ ?_) fun(v:Ac) hm hv=>?_|refine BA (Zvh k _ ?_ ?_ ?_) fun(v:Int) hm hv=>?_|refine BA (Ztk _ _ _ ?_ ?_) fun(v:(A7×(List AO))) hm hv=>?_|refine BA (Zqu _ _ ?_) fun(v:Bool) hm hv=>?_|refine BA (Zqq _) fun(v:Int) hm hv=>?_|refine Z4m ?_ fun v hv=>?_|refine BA (Zeu (k+8) _ _ ?_ ?_ ?_) fun(v:(Ac×(List Am))) hm hv=>?_|refine BA (ZuM _ _ _ _ ?_ ?_ ?_) fun(v:(A7×(List AO)×Int)) hm hv=>?_|refine BA (Zrs _ _ _ ?_ ?_) fun(v:(A7×(List AO))) hm hv=>?_|refine BA (Zen _ _ _ _ ?_ ?_) fun(v:Bc) hm hv=>?_|refine BA (Zde _ _ _ ?_) fun(v:Bc) hm hv=>?_|refine BA (ZtT _) fun(v:Int) hm hv=>?_|refine BA (Zys _ _ _ _ ?_ ?_) fun(v:((List Int)×Int)) hm hv=>?_|refine BA (Zbl _ ?_ ?_) fun(v:(AO×Int)) hm hv=>?_|refine BA (Zbf _ _ _ _ ?_ ?_) fun(v:(A7×(List AO)×(List Am))) hm hv=>?_|refine TK ?_ fun v hv=>?_|refine BA (ZcU _ _ ?_) fun(v:(List Am)) hm hv=>?_|with_reducible apply And.intro|rfl|assumption|exact True.intro|omega|exact decide_eq_true (IP _).1|exact IM (by assumption) (by omega)|exact Ih (by assumption) (by omega)|(refine Gu.2 ?_;first|omega|grind)|(apply IX;first|omega|(simp only[CZ];omega))|(simp only[Ei,CZ,D6,maxLen_eq,kL,kA]<;>omega)|(simp(disch:=omega) only[Ce,decide_eq_true_eq,bne_iff_ne,ne_eq];(repeat' split)<;>omega)|(simp[EJ,Fq];done)|grind|(simp only[Ei,CZ,D6,maxLen_eq,kL,kA]<;>grind)|grind [Ee]
def ZAs:=Sz.1
def Zqg:=Sz.2.1
def Zwc:=Sz.2.2.1
def ZtF:=Sz.2.2.2.1
def ZuF:=Sz.2.2.2.2.1
def ZAE:=Sz.2.2.2.2.2.1
def Zdx:=Sz.2.2.2.2.2.2.1
def ZqV:=Sz.2.2.2.2.2.2.2
end Go.Proofs.YtjodhcdmhobmoaaGreatDoor
