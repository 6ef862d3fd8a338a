/- . -/
import Derived.Test.YtjodhcdmhobmoaaGreatDoorVQ2c
set_option linter.unusedVariables false
set_option linter.unusedSimpArgs false
namespace Go.Proofs.YtjodhcdmhobmoaaGreatDoor
open Go Go.Proofs.YtjodhcdmhobmoaaGreatDoor.Le
set_option maxRecDepth 100000
set_option linter.defProp false
set_option maxHeartbeats 40000000
open Go Go.Proofs.YtjodhcdmhobmoaaGreatDoor.Le Go.Proofs.YtjodhcdmhobmoaaGreatDoor.Na
theorem Kt:(∀(z:Int),∃r,X0 z=some r/\r.length<=37/\IV r) /\
  (∀(z:Int) (q:D5),∃r,Z2w z q=some r/\True) /\
  (∀(z:BQ) (q:Aq),Dl z->Cb q->(q.BP=3->mG q.Payload)->∃r,sU z q=some r/\Dl r.1) /\
  (∀(z q:Int),∃r,S9 z q=some r/\CU r) /\
  (∀(z:BI),Cb z.Ap->∃r,Z1Y z=some r/\r.1.length<=257/\DZ r.1) /\
  (∀(z:Int) (q:List Int),q.length<=100000->DZ q->∃r,Z2j z q=some r/\r.length=q.length+3/\DZ r) /\
  (∀(z:Int) (q:List Int),q.length<=100000->∃r,dV z q=some r/\r.q0.length=q.length/\DZ r.q0) /\
  (∀(z:List BG) (q:Int),(z.length<=1/\GG z)->∃r,Z47 z q=some r/\r.1.length<=1/\GG r.1/\r.2.length<=1/\GG r.2) /\
  (∀(k:Int) (z:Ac) (q:BG),BR k z->MW q->0<=k->k<=1000000->∃r,Z2x z q=some r/\BR k r) /\
  (∀(z:Int) (q:BG),MW q->∃r,dX z q=some r/\True) /\
  (∀(z:A7) (q:Int),BM z->∃r,Z1C z q=some r/\True) /\
  (∀(z:BJ),∃r,Z3M z=some r/\True) /\
  (∀(z:Int) (q:List Int),q.length<=65536->DZ q->∃r,uB z q=some r/\r.1.length<=65536/\DZ r.1) /\
  (∀(z:BQ) (q:BI),Dl z->Cb q.Ap->∃r,vK z q=some r/\Dl r.1/\Cb r.2.1):=by
 refine⟨fun z=>CW (fun(p:fV)=>match p with | .b0 ..=>True | .b1 _ A D=>0<=D/\D<=37/\(A.length:Int)<=D/\IV A | .b2 _ A D=>0<=D/\D<=36/\(A.length:Int)<=D+1/\IV A) (fun(p:fV)=>match p with | .b0 ..=>(1,0,0) | .b1 _ _ D=>(0,(37 - D).toNat,1) | .b2 _ _ D=>(0,(37 - D).toNat,0)) ?_ _ ?_,
  fun z q=>Cc (True) ?_ fun hp=>?_,
  fun z q I J M=>CW (fun(p:fE)=>match p with | .b0 C A=>Dl C/\Cb A/\(A.BP=3->mG A.Payload) | .b1 C A _=>Dl C/\Cb A/\F6 A) (fun(p:fE)=>match p with | .b0 ..=>(0,0,1) | .b1 ..=>(0,0,0)) ?_ _ ?_,
  fun z q=>CW (fun(p:iL)=>match p with | .b0 ..=>True | .b1 _ _ _ F=>0<=F/\F<=8) (fun(p:iL)=>match p with | .b0 ..=>(1,0,0) | .b1 _ _ _ F=>(0,(8 - F).toNat,0)) ?_ _ ?_,
  fun z I=>Cc (Cb z.Ap) ?_ fun hp=>?_,
  fun z q I J=>Cc (q=q) ?_ fun hp=>?_,
  fun z q I=>CW (fun(p:dY)=>match p with | .b0 _ A=>A=q | .b1 C A D F=>C=q/\C.length<=100000/\A.length=q.length/\0<=F/\F<=(C.length:Int)/\(D.length:Int)=F/\DZ D) (fun(p:dY)=>match p with | .b0 ..=>(1,0,0) | .b1 C _ _ F=>(0,((C.length:Int) - F).toNat,0)) ?_ _ ?_,
  fun z q I=>CW (fun(p:iR)=>match p with | .b0 C _=>C.length<=1/\GG C | .b1 C _ D F G=>C.length<=1/\GG C/\D.length<=1/\GG D/\F.length<=1/\GG F/\0<=G/\G<=(C.length:Int)/\(D.length:Int)+(F.length:Int)<=G | .b2 C _ D F G=>C.length<=1/\GG C/\D.length<=1/\GG D/\F.length<=1/\GG F/\0<=G/\G<(C.length:Int)/\(D.length:Int)+(F.length:Int)<=G+1) (fun(p:iR)=>match p with | .b0 ..=>(1,0,0) | .b1 C _ _ _ G=>(0,((C.length:Int) - G).toNat,1) | .b2 C _ _ _ G=>(0,((C.length:Int) - G).toNat,0)) ?_ _ ?_,
  fun k z q I J M N=>CW (fun(p:fB)=>match p with | .b0 C A=>BR k C/\MW A | .b1 C A _=>BR k C/\MW A) (fun(p:fB)=>match p with | .b0 ..=>(0,0,1) | .b1 ..=>(0,0,0)) ?_ _ ?_,
  fun z q I=>CW (fun(p:fQ)=>match p with | .b0 _ A=>MW A | .b1 _ A=>MW A) (fun(p:fQ)=>match p with | .b0 ..=>(0,0,1) | .b1 ..=>(0,0,0)) ?_ _ ?_,
  fun z q I=>Cc (BM z) ?_ fun hp=>?_,
  fun z=>Cc (True) ?_ fun hp=>?_,
  fun z q I J=>Cc (q.length<=65536/\DZ q) ?_ fun hp=>?_,
  fun z q I J=>CW (fun(p:gQ)=>match p with | .b0 C A=>Dl C/\Cb A.Ap | .b1 C A _ _=>Dl C/\Cb A.Ap | .b2 _ A D _ _=>Dl A/\Cb D.Ap | .b3 _ A D _ _=>Dl A/\Cb D.Ap/\0<A.Az.length | .b4 _ A D _ _=>Cb D.Ap/\Dl { A with Open:=false } | .b5 _ A _ _=>Dl A) (fun(p:gQ)=>match p with | .b0 ..=>(0,0,5) | .b1 ..=>(0,0,4) | .b2 ..=>(0,0,1) | .b3 ..=>(0,0,3) | .b4 ..=>(0,0,2) | .b5 ..=>(0,0,0)) ?_ _ ?_⟩
 all_goals try (intro p hp;cases p)
 all_goals
  try dsimp only at hp
  try exact False.elim hp
  try have hx:=hp
  try dsimp only[BR,Dl,BM,EE,Cb,F6,Fj,FB]at hx
  try (repeat with_reducible (have O:=And.left hp;replace hp:=And.right hp))
  try simp only[Q4,Zd4,Zcw,VE,ZbC,ZbL,XZ,Zfo,Zcn,eQ,Zb1,Zfr,tJ,NV]
  try dsimp only
  repeat' first|(refine FP ?_;dsimp only;try simp(disch:=omega) only[Ce,CZ,List.nil_append,List.drop_zero])|(refine GH (fun h=>?_) (fun h=>?_)<;>(try simp only[Ht,reduceCtorEq]at h;try simp(disch:=omega) only[Ce]at h))|refine EU ?_ ?_|refine Ii ?_|refine BA (Zfj _ _) fun(v:Bool) hm hv=>?_|refine BA (Zvo _) fun(v:Int) hm hv=>?_|refine BA (ZrM _) fun(v:Int) hm hv=>?_|refine BA (Zxm _) fun(v:Int) hm hv=>?_|refine BA (Zq6 _) fun(v:Bool) hm hv=>?_|refine BA (Z2s _) fun(v:Int) hm hv=>?_|refine BA (Zv6 _ _ _) fun(v:Int) hm hv=>?_|refine BA (ZyN _ _ ?_) fun(v:Int) hm hv=>?_|refine BA (Zx1 _) fun(v:(List Int)) hm hv=>?_|refine BA (Zpo _ _ ?_ ?_) fun(v:(List Int)) hm hv=>?_|refine TK ?_ fun v hv=>?_|refine BA (ZsO _ _) fun(v:Bool) hm hv=>?_|refine Z4m ?_ fun v hv=>?_|refine BA (ZzV _ _) fun(v:ET) hm hv=>?_|refine BA (Zxs _ _ _) fun(v:Bool) hm hv=>?_|refine BA (ZcZ _) fun(v:Int) hm hv=>?_|refine BA (Ze0 _) fun(v:Int) hm hv=>?_|with_reducible apply And.intro|rfl|assumption|exact True.intro|omega|exact decide_eq_true (IP _).1|exact IM (by assumption) (by omega)|exact Ih (by assumption) (by omega)|(refine Gu.2 ?_;first|omega|grind)|(apply IX;first|omega|(simp only[CZ];omega))|(simp only[Ei,CZ,D6,maxLen_eq,kL,kA]<;>omega)|(simp(disch:=omega) only[Ce,decide_eq_true_eq,bne_iff_ne,ne_eq];(repeat' split)<;>omega)|(simp[EJ,Fq];done)|grind|(simp only[Ei,CZ,D6,maxLen_eq,kL,kA]<;>grind)|grind [Ee]
def Zdb:=Kt.1
def ZvF:=Kt.2.1
def Zuy:=Kt.2.2.1
def ZA5:=Kt.2.2.2.1
def Zsq:=Kt.2.2.2.2.1
def Zsv:=Kt.2.2.2.2.2.1
def ZtM:=Kt.2.2.2.2.2.2.1
def Zzs:=Kt.2.2.2.2.2.2.2.1
def Zvf:=Kt.2.2.2.2.2.2.2.2.1
def Ztq:=Kt.2.2.2.2.2.2.2.2.2.1
def Zqu:=Kt.2.2.2.2.2.2.2.2.2.2.1
def ZAf:=Kt.2.2.2.2.2.2.2.2.2.2.2.1
def ZcC:=Kt.2.2.2.2.2.2.2.2.2.2.2.2.1
def Zx0:=Kt.2.2.2.2.2.2.2.2.2.2.2.2.2
theorem Zue:∀(D:AO) (F:List Int),CY D->(∃u,DJ D.Kind=some u/\(F.length:Int)=II u/\EJ u)->F.length<=65536->∃r,XT D F=some r/\CY r:=by
 refine fun D F N G J=>CW (fun(p:dR)=>match p with | .b0 z A=>CY z/\z.Kind=D.Kind/\A=F | .b1 z A C _ q=>CY C/\EJ q/\(z.length:Int)=II q/\A=1+cond q.BB 9 0/\z.length<=65536 | .b2 z A C _ q=>CY C/\EJ q/\(z.length:Int)=II q/\A=1+cond q.BB 9 0+cond q.Map 5 0/\z.length<=65536 | .b3 z A C _ q=>CY C/\EJ q/\(z.length:Int)=II q/\A=1+cond q.BB 9 0+cond q.Map 5 0/\z.length<=65536 | .b4 z A C _ q=>CY C/\EJ q/\(z.length:Int)=II q/\A=1+cond q.BB 9 0+cond q.Map 5 0+cond q.Bl 1 0/\z.length<=65536 | .b5 z A C _ q=>CY C/\EJ q/\(z.length:Int)=II q/\A=1+cond q.BB 9 0+cond q.Map 5 0+cond q.Bl 1 0/\z.length<=65536 | .b6 z A C _ q=>CY C/\EJ q/\(z.length:Int)=II q/\A=1+cond q.BB 9 0+cond q.Map 5 0+cond q.Bl 1 0+cond q.Bj 8 0/\z.length<=65536 | .b7 z A C _ q=>CY C/\EJ q/\(z.length:Int)=II q/\A=1+cond q.BB 9 0+cond q.Map 5 0+cond q.Bl 1 0+cond q.Bj 8 0/\z.length<=65536 | .b8 z A C _ q=>CY C/\EJ q/\(z.length:Int)=II q/\A=1+cond q.BB 9 0+cond q.Map 5 0+cond q.Bl 1 0+cond q.Bj 8 0/\z.length<=65536 | .b9 z A C _ q=>CY C/\EJ q/\(z.length:Int)=II q/\A=1+cond q.BB 9 0+cond q.Map 5 0+cond q.Bl 1 0+cond q.Bj 8 0/\z.length<=65536) (fun(p:dR)=>match p with | .b0 ..=>(0,0,9) | .b1 ..=>(0,0,8) | .b2 ..=>(0,0,7) | .b3 ..=>(0,0,6) | .b4 ..=>(0,0,5) | .b5 ..=>(0,0,4) | .b6 ..=>(0,0,3) | .b7 ..=>(0,0,2) | .b8 ..=>(0,0,1) | .b9 ..=>(0,0,0)) ?_ _ ?_
 all_goals try (intro p hp;cases p)
 case' b0=>
  dsimp only at hp;have hx:=hp
  try dsimp only[BR,Dl,BM,EE,Cb,F6,Fj,FB]at hx
  simp only[Jg];obtain⟨M,hk,rfl⟩:=hp;obtain⟨u,G,J,I⟩:=G;refine Xq (hk▸G) ?_;clear hx G hk;simp only[EJ,Fq,List.mem_cons,List.not_mem_nil,or_false]at I;rcases I with rfl|rfl|rfl|rfl|rfl|rfl|rfl|rfl|rfl|rfl|rfl|rfl|rfl<;>simp only[II,cond_true,cond_false,Bool.or_true,Bool.true_or,Bool.or_false,Bool.false_or,Bool.or_self,reduceCtorEq,and_false]at *<;>repeat' first|(refine GH (fun h=>?_) (fun h=>?_)<;>(try simp only[Ht,reduceCtorEq]at h;try simp(disch:=omega) only[Ce]at h))|(refine BA (Z3K _ _ _ (by omega) (by omega) (by omega) (by omega) (by omega)) (fun(v:Int) hm hv=>?_))|(refine TK ?_ (fun v hv=>?_))|(refine BA (Z8U _ _ (by omega) (by omega) (by omega)) (fun(v:D5) hm hv=>?_))|(refine FP ?_;dsimp only;(try simp(disch:=omega) only[Ce]);first|exact⟨⟨by grind,by simp[EJ,Fq],by first|omega|(simp only[II,cond_true,cond_false,Bool.or_true,Bool.true_or,Bool.or_false,Bool.false_or,Bool.or_self,reduceCtorEq,and_false]at *<;>omega),by first|omega|(simp only[II,cond_true,cond_false,Bool.or_true,Bool.true_or,Bool.or_false,Bool.false_or,Bool.or_self,reduceCtorEq,and_false]at *<;>omega),by omega⟩,Gu.2 (by omega)⟩|grind)
 case' b1|b2|b3|b4|b5|b6|b7|b8|b9=>
  dsimp only at hp;have hx:=hp
  try dsimp only[BR,Dl,BM,EE,Cb,F6,Fj,FB]at hx
  simp only[Jg];have hc:=hp.1;have hu:=hp.2.1;have hl:=hp.2.2.1;have O:=hp.2.2.2.1;have hs:=hp.2.2.2.2;clear hp hx;simp only[EJ,Fq,List.mem_cons,List.not_mem_nil,or_false]at hu;rcases hu with rfl|rfl|rfl|rfl|rfl|rfl|rfl|rfl|rfl|rfl|rfl|rfl|rfl<;>simp only[II,cond_true,cond_false,Bool.or_true,Bool.true_or,Bool.or_false,Bool.false_or,Bool.or_self,reduceCtorEq,and_false]at *<;>repeat' first|(refine GH (fun h=>?_) (fun h=>?_)<;>(try simp only[Ht,reduceCtorEq]at h;try simp(disch:=omega) only[Ce]at h))|(refine EU ?_ ?_)|(refine BA (Z3K _ _ _ (by omega) (by omega) (by omega) (by omega) (by omega)) (fun(v:Int) hm hv=>?_))|(refine TK ?_ (fun v hv=>?_))|(refine BA (Z8U _ _ (by omega) (by omega) (by omega)) (fun(v:D5) hm hv=>?_))|(refine FP ?_;dsimp only;(try simp(disch:=omega) only[Ce]);first|exact⟨⟨by grind,by simp[EJ,Fq],by first|omega|(simp only[II,cond_true,cond_false,Bool.or_true,Bool.true_or,Bool.or_false,Bool.false_or,Bool.or_self,reduceCtorEq,and_false]at *<;>omega),by first|omega|(simp only[II,cond_true,cond_false,Bool.or_true,Bool.true_or,Bool.or_false,Bool.false_or,Bool.or_self,reduceCtorEq,and_false]at *<;>omega),by omega⟩,Gu.2 (by omega)⟩|grind)
 all_goals
  try dsimp only at hp
  try exact False.elim hp
  try have hx:=hp
  try dsimp only[BR,Dl,BM,EE,Cb,F6,Fj,FB]at hx
  try (repeat with_reducible (have M:=And.left hp;replace hp:=And.right hp))
  try simp only[Jg]
  try dsimp only
  repeat' first|(refine FP ?_;dsimp only;try simp(disch:=omega) only[Ce,CZ,List.nil_append,List.drop_zero])|(refine GH (fun h=>?_) (fun h=>?_)<;>(try simp only[Ht,reduceCtorEq]at h;try simp(disch:=omega) only[Ce]at h))|refine EU ?_ ?_|refine Ii ?_|with_reducible apply And.intro|rfl|assumption|exact True.intro|omega|exact decide_eq_true (IP _).1|exact IM (by assumption) (by omega)|exact Ih (by assumption) (by omega)|(refine Gu.2 ?_;first|omega|grind)|(apply IX;first|omega|(simp only[CZ];omega))|(simp only[Ei,CZ,D6,maxLen_eq,kL,kA]<;>omega)|(simp(disch:=omega) only[Ce,decide_eq_true_eq,bne_iff_ne,ne_eq];(repeat' split)<;>omega)|(simp[EJ,Fq];done)|grind|(simp only[Ei,CZ,D6,maxLen_eq,kL,kA]<;>grind)|grind [Ee]
end Go.Proofs.YtjodhcdmhobmoaaGreatDoor
