/- . -/
import Derived.Test.YtjodhcdmhobmoaaGreatDoorVQ2d
set_option linter.unusedVariables false
set_option linter.unusedSimpArgs false
namespace Go.Proofs.YtjodhcdmhobmoaaGreatDoor
open Go Go.Proofs.YtjodhcdmhobmoaaGreatDoor.Le
set_option maxRecDepth 100000
set_option linter.defProp false
set_option maxHeartbeats 40000000
open Go Go.Proofs.YtjodhcdmhobmoaaGreatDoor.Le Go.Proofs.YtjodhcdmhobmoaaGreatDoor.Na
theorem PW:(∀(C:Int),∃r,XQ C=some r/\0<=r/\r<=37) /\
  (∀(C F:Int),∃r,jC C F=some r/\True) /\
  (∀(k:Int) (C:Ac),BR k C->0<=k->k<=1000000->∃r,Z2F C=some r/\BR k r) /\
  (∀(C F G:Int),0<=G->G<=100000->∃r,dG C F G=some r/\(r.length:Int)=G/\DZ r) /\
  (∀(C:Int) (F:List Int),F.length<=1000000->∃r,Uz C F=some r/\CU r) /\
  (∀(C:A7) (F:Int),BM C->∃r,Z3F C F=some r/\BM r.1/\r.2.length<=1/\GG r.2) /\
  (∀(C:List BG) (F:Int) (G:BG),(C.length<=1/\GG C)->MW G->∃r,VD C F G=some r/\r.1.length<=1/\GG r.1) /\
  (∀(k:Int) (C:Ac) (F:Aq),BR k C->Cb F->0<=k->k<=1000000->∃r,Z30 C F=some r/\BR k r.1) /\
  (∀(C:List BJ) (F:List Int),C.length<=37->F.length<=37->∃r,Z2u C F=some r/\r<(F.length:Int)) /\
  (∀(C:List Int),C.length<=65536->DZ C->∃r,JD C=some r/\(CY r.1/\(r.2=0->CV r.1)/\(r.2=12->1<=C.length))):=by
 refine⟨fun C=>Cc (True) ?_ fun hp=>?_,
  fun C F=>CW (fun(p:jE)=>match p with | .b0 ..=>True | .b1 z q=>0<=z/\z<(q.length:Int)) (fun(p:jE)=>match p with | .b0 ..=>(0,0,1) | .b1 ..=>(0,0,0)) ?_ _ ?_,
  fun k C I M O=>CW (fun(p:fU)=>match p with | .b0 z=>BR k z | .b1 z _ A D _=>FX z/\BR k D/\0<=A/\A<=(D.Ag.length:Int)/\(z.length:Int)<=A | .b2 z _ A D _ N=>FX z/\BR k D/\CV N/\0<=A/\A<(D.Ag.length:Int)/\(z.length:Int)<=A | .b3 z _ A D _ N=>FX z/\BR k D/\CV N/\0<=A/\A<(D.Ag.length:Int)/\(z.length:Int)<=A | .b4 z _ A D _=>FX z/\BR k D/\0<=A/\A<(D.Ag.length:Int)/\(z.length:Int)<=A+1) (fun(p:fU)=>match p with | .b0 ..=>(1,0,0) | .b1 _ _ A D _=>(0,((D.Ag.length:Int) - A).toNat,2) | .b2 _ _ A D _ _=>(0,((D.Ag.length:Int) - A).toNat,1) | .b3 _ _ A D _ _=>(0,((D.Ag.length:Int) - A).toNat,1) | .b4 _ _ A D _=>(0,((D.Ag.length:Int) - A).toNat,0)) ?_ _ ?_,
  fun C F G I M=>CW (fun(p:dO)=>match p with | .b0 _ _ A=>A=G/\0<=A/\A<=100000 | .b1 _ q A _ J=>q=G/\0<=q/\q<=100000/\0<=J/\(A.length:Int)=8*J/\8*J<=q+8/\DZ A) (fun(p:dO)=>match p with | .b0 ..=>(1,0,0) | .b1 _ q _ _ J=>(0,(q+8 - 8*J).toNat,0)) ?_ _ ?_,
  fun C F I=>CW (fun(p:iY)=>match p with | .b0 _ q=>q.length<=1000000 | .b1 _ q A D=>0<=D/\D<=(q.length:Int)+8/\q.length<=1000000/\CU A) (fun(p:iY)=>match p with | .b0 ..=>(1,0,0) | .b1 _ q _ D=>(0,((q.length:Int)+8 - D).toNat,0)) ?_ _ ?_,
  fun C F I=>CW (fun(p:jB)=>match p with | .b0 z _=>BM z | .b1 z _=>BM z | .b2 z q _=>z.length<=1/\GG z/\BM q | .b3 z q A _=>z.length<=1/\GG z/\BM A/\0<=q/\q<=(z.length:Int) | .b4 z q A _=>z.length<=1/\GG z/\BM A/\0<=q/\q<(z.length:Int) | .b5 z q A _=>z.length<=1/\GG z/\BM A/\0<=q/\q<(z.length:Int)) (fun(p:jB)=>match p with | .b0 ..=>(2,0,0) | .b1 ..=>(1,0,0) | .b2 ..=>(1,0,1) | .b3 z q _ _=>(0,((z.length:Int) - q).toNat,3) | .b4 z q _ _=>(0,((z.length:Int) - q).toNat,2) | .b5 z q _ _=>(0,((z.length:Int) - q).toNat,1)) ?_ _ ?_,
  fun C F G I M=>Cc (C.length<=1/\GG C/\MW G) ?_ fun hp=>?_,
  fun k C F I M O Q=>CW (fun(p:gK)=>match p with | .b0 z q=>BR k z/\Cb q | .b1 z q _=>BR k z/\Cb q/\q.BP≠3) (fun(p:gK)=>match p with | .b0 ..=>(0,0,1) | .b1 ..=>(0,0,0)) ?_ _ ?_,
  fun C F I M=>CW (fun(p:dQ)=>match p with | .b0 z q=>z.length<=37/\q=F/\q.length<=37 | .b1 z q A D=>z.length<=37/\q=F/\q.length<=37/\A<(q.length:Int)/\0<=D/\D<=(q.length:Int) | .b2 z q A D=>z.length<=37/\q=F/\q.length<=37/\A<(q.length:Int)/\0<=D/\D<(q.length:Int) | .b3 z q A=>z.length<=37/\q=F/\q.length<=37/\A<(q.length:Int)/\0<=A) (fun(p:dQ)=>match p with | .b0 ..=>(1,0,0) | .b1 _ q _ D=>(0,((q.length:Int) - D).toNat,2) | .b2 _ q _ D=>(0,((q.length:Int) - D).toNat,0) | .b3 _ q A=>(0,((q.length:Int) - A).toNat,1)) ?_ _ ?_,
  fun C I M=>Cc (C=C/\C.length<=65536/\DZ C) ?_ fun hp=>?_⟩
 all_goals try (intro p hp;cases p)
 all_goals
  try dsimp only at hp
  try exact False.elim hp
  try have hx:=hp
  try dsimp only[BR,Dl,BM,EE,Cb,F6,Fj,FB]at hx
  try (repeat with_reducible (have S:=And.left hp;replace hp:=And.right hp))
  try simp only[Z2l,wE,Zd3,XF,Xd,ZeD,Z3Y,ZdG,ZcJ,rX]
  try dsimp only
  repeat' first|(refine FP ?_;dsimp only;try simp(disch:=omega) only[Ce,CZ,List.nil_append,List.drop_zero])|(refine GH (fun h=>?_) (fun h=>?_)<;>(try simp only[Ht,reduceCtorEq]at h;try simp(disch:=omega) only[Ce]at h))|refine EU ?_ ?_|refine Ii ?_|refine BA (Zdb _) fun(v:(List Int)) hm hv=>?_|refine Zhi ?_ fun v hv=>?_|refine BA (ZvG _ ?_) fun(v:Bool) hm hv=>?_|refine BA (ZqX _) fun(v:Bool) hm hv=>?_|refine Z4j ?_ fun v hv=>?_|refine BA (Zsp _ ?_) fun(v:((List Int)×Int)) hm hv=>?_|refine BA (Zuy _ _ ?_ ?_ ?_) fun(v:(BQ×Int)) hm hv=>?_|refine BA (ZA5 _ _) fun(v:Int) hm hv=>?_|refine BA (Z45 _ _ ?_ ?_) fun(v:MC) hm hv=>?_|refine BA (ZtQ _ ?_) fun(v:Int) hm hv=>?_|refine BA (Zzs _ _ ?_) fun(v:((List BG)×(List BG))) hm hv=>?_|refine Z4m ?_ fun v hv=>?_|refine BA (Ztq _ _ ?_) fun(v:Int) hm hv=>?_|refine BA (Z2s _) fun(v:Int) hm hv=>?_|refine BA (ZCe _ _ ?_) fun(v:BJ) hm hv=>?_|refine BA (ZAf _) fun(v:Bool) hm hv=>?_|refine BA (Ze0 _) fun(v:Int) hm hv=>?_|refine BA (rW _) fun(v:CE) hm hv=>?_|refine BA (Zxk _) fun(v:Int) hm hv=>?_|refine BA (Zue _ _ ?_ ?_ ?_) fun(v:AO) hm hv=>?_|refine BA (Zcb _ ?_) fun(v:Int) hm hv=>?_|refine TK ?_ fun v hv=>?_|(exact ZBt (by assumption) (by assumption))|with_reducible apply And.intro|rfl|assumption|exact True.intro|omega|exact decide_eq_true (IP _).1|exact IM (by assumption) (by omega)|exact Ih (by assumption) (by omega)|(refine Gu.2 ?_;first|omega|grind)|(apply IX;first|omega|(simp only[CZ];omega))|(simp only[Ei,CZ,D6,maxLen_eq,kL,kA]<;>omega)|(simp(disch:=omega) only[Ce,decide_eq_true_eq,bne_iff_ne,ne_eq];(repeat' split)<;>omega)|(simp[EJ,Fq];done)|grind|(simp only[Ei,CZ,D6,maxLen_eq,kL,kA]<;>grind)|grind [Ee]
def ZtZ:=PW.1
def ZAv:=PW.2.1
def Zuf:=PW.2.2.1
def Zta:=PW.2.2.2.1
def ZzH:=PW.2.2.2.2.1
def ZzB:=PW.2.2.2.2.2.1
def ZyO:=PW.2.2.2.2.2.2.1
def Zwk:=PW.2.2.2.2.2.2.2.1
def Ztr:=PW.2.2.2.2.2.2.2.2.1
def Zbl:=PW.2.2.2.2.2.2.2.2.2
theorem Qk:(∀(q:Int),∃r,fC q=some r/\True) /\
  (∀(q C D:Int),∃r,wK q C D=some r/\True) /\
  (∀(q C:Int),∃r,uD q C=some r/\True) /\
  (∀(q C:Int) (D G:List Int),D.length<=200000->G.length<=200000->∃r,iV q C D G=some r/\r.length=4/\DZ r) /\
  (∀(q:A7) (C:AO) (D G:Int),BM q->CV C->R16 D->∃r,uJ q C D G=some r/\BM r.1/\CV r.2/\r.1.Ah=q.Ah) /\
  (∀(q:Int) (C:ByteArray) (D:List Int),YZ U 5 C=true->(Ko U 5 C).length<=100->D.length<=1000->∃r,rZ q C D=some r/\CU r) /\
  (∀(q:List BJ) (C D:Int),q.length<=37->∃r,Z1K q C D=some r/\CU r) /\
  (∀(k:Int) (q:Ac) (C:Aq),BR k q->Cb C->0<=k->k<=1000000->∃r,fH q C=some r/\BR k r.1/\r.2.length<=1) /\
  (∀(q:A7) (C:AO) (D G:Int),BM q->CY C->∃r,oI q C D G=some r/\BM r):=by
 refine⟨fun q=>Cc (True) ?_ fun hp=>?_,
  fun q C D=>Cc (True) ?_ fun hp=>?_,
  fun q C=>Cc (True) ?_ fun hp=>?_,
  fun q C D G J M=>Cc (D.length<=200000/\G.length<=200000) ?_ fun hp=>?_,
  fun q C D G J M N=>CW (fun(p:dW)=>match p with | .b0 z A F _=>BM z/\CV A/\z=q/\R16 F | .b1 z A F _ _=>BM A/\CV F/\(A.Ah=q.Ah/\R16 z/\(F.Kind=0\/F.Kind=1)) | .b2 z A F _ _=>BM A/\CV F/\A.Ah=q.Ah/\z=F.Kind | .b3 z A _ _=>BM z/\CV A/\z.Ah=q.Ah | .b4 z A _ _=>BM z/\CV A/\z.Ah=q.Ah | .b5 z A _ _=>BM z/\CV A/\z.Ah=q.Ah) (fun(p:dW)=>match p with | .b0 ..=>(0,0,4) | .b1 ..=>(0,0,3) | .b3 ..=>(0,0,2) | .b4 ..=>(0,0,0)|_=>(0,0,1)) ?_ _ ?_,
  fun q C D J M N=>CW (fun(p:dD)=>match p with | .b0 _ A F=>YZ U 5 A=true/\(Ko U 5 A).length<=100/\F.length<=1000 | .b1 _ A F I=>A.length<=1000/\0<=I/\I<=(A.length:Int)/\(F.length:Int)<=101+8*I) (fun(p:dD)=>match p with | .b0 ..=>(1,0,0) | .b1 _ A _ I=>(0,((A.length:Int) - I).toNat,0)) ?_ _ ?_,
  fun q C D J=>CW (fun(p:bV)=>match p with | .b0 z _ _=>z.length<=37 | .b1 z _ F=>z.length<=37/\F.length<=37/\IV F | .b2 z=>z.length<=37/\IV z) (fun(p:bV)=>match p with | .b0 ..=>(1,0,0) | .b1 _ _ F=>(0,F.length,1) | .b2 ..=>(0,0,0)) ?_ _ ?_,
  fun k q C J M N O=>CW (fun(p:eH)=>match p with | .b0 z A=>BR k z/\Cb A | .b1 z A _=>BR k z/\Cb A | .b2 z A _=>z.length<=1/\BR k A) (fun(p:eH)=>match p with | .b0 ..=>(0,0,2) | .b1 ..=>(0,0,1) | .b2 ..=>(0,0,0)) ?_ _ ?_,
  fun q C D G J M=>CW (fun(p:aG)=>match p with | .b0 z A _ _=>BM z/\CY A | .b1 z _=>BM z) (fun(p:aG)=>match p with | .b0 ..=>(0,0,1) | .b1 ..=>(0,0,0)) ?_ _ ?_⟩
 all_goals try (intro p hp;cases p)
 all_goals
  try dsimp only at hp
  try exact False.elim hp
  try have hx:=hp
  try dsimp only[BR,Dl,BM,EE,Cb,F6,Fj,FB]at hx
  try (repeat with_reducible (have Q:=And.left hp;replace hp:=And.right hp))
  try simp only[Z2E,Z40,Z2V,Z3A,Zd6,XK,Zat,QU,Z0k]
  try dsimp only
  repeat' first|(refine FP ?_;dsimp only;try simp(disch:=omega) only[Ce,CZ,List.nil_append,List.drop_zero])|(refine GH (fun h=>?_) (fun h=>?_)<;>(try simp only[Ht,reduceCtorEq]at h;try simp(disch:=omega) only[Ce]at h))|refine EU ?_ ?_|refine Ii ?_|refine BA (Z2Q _ ?_ ?_) fun(v:Int) hm hv=>?_|refine BA (ZtZ _) fun(v:Int) hm hv=>?_|refine BA (Zcv _) fun(v:Int) hm hv=>?_|refine BA (Zbn _ _) fun(v:Int) hm hv=>?_|refine BA (Zfj _ _) fun(v:Bool) hm hv=>?_|refine BA (ZAv _ _) fun(v:Int) hm hv=>?_|refine BA (Ztt _ _ _ ?_ ?_) fun(v:Ul) hm hv=>?_|refine BA (ZzH _ _ ?_) fun(v:Int) hm hv=>?_|refine BA (Z45 _ _ ?_ ?_) fun(v:MC) hm hv=>?_|refine BA (ZwP _ _) fun(v:Int) hm hv=>?_|refine BA (Zr8 _) fun(v:BG) hm hv=>?_|refine BA (ZyO _ _ _ ?_ ?_) fun(v:((List BG)×Int)) hm hv=>?_|refine ZDH ?_ fun v hv=>?_|refine BA (Zdb _) fun(v:(List Int)) hm hv=>?_|refine BA (Ztr _ _ ?_ ?_) fun(v:Int) hm hv=>?_|refine BA (ZB5 _ ?_ ?_) fun(v:Int) hm hv=>?_|refine BA (Z2X _) fun(v:Bool) hm hv=>?_|refine BA (ZdA _ _ _ ?_) fun(v:Bc) hm hv=>?_|refine BA (Zbl _ ?_ ?_) fun(v:(AO×Int)) hm hv=>?_|refine BA (Zwq _ _ ?_ ?_) fun(v:(A7×(List Am))) hm hv=>?_|refine BA (Zde _ _ _ ?_) fun(v:Bc) hm hv=>?_|refine BA (ZcU _ _ ?_) fun(v:(List Am)) hm hv=>?_|with_reducible apply And.intro|rfl|assumption|exact True.intro|omega|exact decide_eq_true (IP _).1|exact IM (by assumption) (by omega)|exact Ih (by assumption) (by omega)|(refine Gu.2 ?_;first|omega|grind)|(apply IX;first|omega|(simp only[CZ];omega))|(simp only[Ei,CZ,D6,maxLen_eq,kL,kA]<;>omega)|(simp(disch:=omega) only[Ce,decide_eq_true_eq,bne_iff_ne,ne_eq];(repeat' split)<;>omega)|(simp[EJ,Fq];done)|grind|(simp only[Ei,CZ,D6,maxLen_eq,kL,kA]<;>grind)|grind [Ee]
def Zuj:=Qk.1
def Zz5:=Qk.2.1
def Zu4:=Qk.2.2.1
def ZAX:=Qk.2.2.2.1
def Zun:=Qk.2.2.2.2.1
def ZsE:=Qk.2.2.2.2.2.1
def ZpU:=Qk.2.2.2.2.2.2.1
def Ztv:=Qk.2.2.2.2.2.2.2.1
def ZlO:=Qk.2.2.2.2.2.2.2.2
end Go.Proofs.YtjodhcdmhobmoaaGreatDoor
