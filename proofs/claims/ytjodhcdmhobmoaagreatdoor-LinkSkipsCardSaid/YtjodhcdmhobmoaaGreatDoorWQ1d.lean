/- . -/
import Derived.Test.YtjodhcdmhobmoaaGreatDoorWQ1c
set_option linter.unusedVariables false
set_option linter.unusedSimpArgs false
namespace Go.Proofs.YtjodhcdmhobmoaaGreatDoor
open Go Go.Proofs.YtjodhcdmhobmoaaGreatDoor.Le
open Go Go.Proofs.YtjodhcdmhobmoaaGreatDoor.Le Go.Proofs.YtjodhcdmhobmoaaGreatDoor.Na
set_option maxRecDepth 100000
set_option maxHeartbeats 2000000
set_option linter.defProp false
set_option maxHeartbeats 40000000
theorem Zxr:∀(z:Int),∃r,JG z=some r/\(∃u,DU z=some u/\r=IQ u/\Di u):=by
 refine fun z=>Bd (fun(p:fD)=>match p with | .b0 q=>q=z | .b1 q a1=>Di a1/\DU z=some a1/\q=1+cond a1.BL 9 0 | .b2 q a1=>Di a1/\DU z=some a1/\q=1+cond a1.BL 9 0+cond a1.Map 5 0 | .b3 q a1=>Di a1/\DU z=some a1/\q=1+cond a1.BL 9 0+cond a1.Map 5 0+cond a1.DZ 2 0 | .b4 q a1=>Di a1/\DU z=some a1/\q=1+cond a1.BL 9 0+cond a1.Map 5 0+cond a1.DZ 2 0/\(a1.CQ||a1.Version||a1.Length)=true | .b5 q a1=>Di a1/\DU z=some a1/\q=1+cond a1.BL 9 0+cond a1.Map 5 0+cond a1.DZ 2 0+cond (a1.CQ||a1.Version||a1.Length) 1 0 | .b6 q a1=>Di a1/\DU z=some a1/\q=1+cond a1.BL 9 0+cond a1.Map 5 0+cond a1.DZ 2 0+cond (a1.CQ||a1.Version||a1.Length) 1 0+cond a1.ER 1 0 | .b7 q a1=>Di a1/\DU z=some a1/\q=1+cond a1.BL 9 0+cond a1.Map 5 0+cond a1.DZ 2 0+cond (a1.CQ||a1.Version||a1.Length) 1 0+cond a1.ER 1 0/\(a1.CZ||a1.D7)=true | .b8 q a1=>Di a1/\DU z=some a1/\q=1+cond a1.BL 9 0+cond a1.Map 5 0+cond a1.DZ 2 0+cond (a1.CQ||a1.Version||a1.Length) 1 0+cond a1.ER 1 0+cond (a1.CZ||a1.D7) 8 0) (fun(p:fD)=>match p with | .b0 ..=>(0,0,8) | .b1 ..=>(0,0,7) | .b2 ..=>(0,0,6) | .b3 ..=>(0,0,5) | .b4 ..=>(0,0,4) | .b5 ..=>(0,0,3) | .b6 ..=>(0,0,2) | .b7 ..=>(0,0,1) | .b8 ..=>(0,0,0)) ?_ _ ?_
 all_goals try (intro p hp;cases p)
 case' b0=>
  dsimp only at hp;have A:=hp
  try dsimp only[BV,Cm,BF,DW,Be,ES,EW,EE,Ba,Ed,Bh]at A
  simp only[J6];subst hp;refine Am (bH _) (fun(v:CP) hm C=>?_);clear A;simp only[Di,Eu,List.mem_cons,List.not_mem_nil,or_false]at C;rcases C with rfl|rfl|rfl|rfl|rfl|rfl|rfl|rfl|rfl|rfl|rfl|rfl|rfl<;>simp only[IQ,cond_true,cond_false,Bool.or_true,Bool.true_or,Bool.or_false,Bool.false_or,Bool.or_self,reduceCtorEq,and_false]at *<;>repeat' first|(refine EN (fun h=>?_) (fun h=>?_)<;>(try simp only[Fe,reduceCtorEq]at h;try simp(disch:=omega) only[Bv]at h))|(refine D9 ?_;dsimp only;exact⟨⟨by simp[Di,Eu],hm,by simp only[IQ,cond_true,cond_false,Bool.or_true,Bool.true_or,Bool.or_false,Bool.false_or,Bool.or_self,reduceCtorEq,and_false]at *<;>omega⟩,ET.2 (by omega)⟩)
 case' b1|b2|b3|b4|b5|b6|b7|b8=>
  dsimp only at hp;have A:=hp
  try dsimp only[BV,Cm,BF,DW,Be,ES,EW,EE,Ba,Ed,Bh]at A
  simp only[J6];have hu:=hp.1;have hf:=hp.2.1;have D:=hp.2.2;clear hp A;simp only[Di,Eu,List.mem_cons,List.not_mem_nil,or_false]at hu;rcases hu with rfl|rfl|rfl|rfl|rfl|rfl|rfl|rfl|rfl|rfl|rfl|rfl|rfl<;>simp only[IQ,cond_true,cond_false,Bool.or_true,Bool.true_or,Bool.or_false,Bool.false_or,Bool.or_self,reduceCtorEq,and_false]at *<;>repeat' first|(refine EN (fun h=>?_) (fun h=>?_)<;>(try simp only[Fe,reduceCtorEq]at h;try simp(disch:=omega) only[Bv]at h))|(refine D9 ?_;dsimp only;(try simp(disch:=omega) only[Bv]);first|exact⟨⟨by simp[Di,Eu],hf,by simp only[IQ,cond_true,cond_false,Bool.or_true,Bool.true_or,Bool.or_false,Bool.false_or,Bool.or_self,reduceCtorEq,and_false]at *<;>first|omega|exact⟨by omega,by first|trivial|rfl⟩⟩,ET.2 (by omega)⟩|exact⟨_,hf,by simp only[IQ,cond_true,cond_false,Bool.or_true,Bool.true_or,Bool.or_false,Bool.false_or,Bool.or_self,reduceCtorEq,and_false]at *<;>omega,by simp[Di,Eu]⟩)
 all_goals
  try dsimp only at hp
  try exact False.elim hp
  try have A:=hp
  try dsimp only[BV,Cm,BF,DW,Be,ES,EW,EE,Ba,Ed,Bh]at A
  try (repeat with_reducible (have F:=And.left hp;replace hp:=And.right hp))
  try simp only[J6]
  try dsimp only
  repeat' first|(refine D9 ?_;dsimp only;try simp(disch:=omega) only[Bv,Bi,List.nil_append,List.drop_zero])|(refine EN (fun h=>?_) (fun h=>?_)<;>(try simp only[Fe,reduceCtorEq]at h;try simp(disch:=omega) only[Bv]at h))|refine Dq ?_ ?_|refine GN ?_|with_reducible apply And.intro|rfl|assumption|exact True.intro|omega|exact decide_eq_true (GG _).1|exact Fz (by assumption) (by omega)|exact Fh (by assumption) (by omega) |  exact GM (by assumption) (by omega)|(refine ET.2 ?_;first|omega|grind)|(apply GX;first|omega|(simp only[Bi];omega))|(simp only[Dp,Bi,Cb,maxLen_eq,kL,kA]<;>omega)|(simp(disch:=omega) only[Bv,decide_eq_true_eq,bne_iff_ne,ne_eq];(repeat' split)<;>omega)|(simp[Di,Eu];done)|grind|(simp only[Dp,Bi,Cb,maxLen_eq,kL,kA]<;>grind)|grind [EG]
theorem Jn:(∀(A:Int),∃r,WT A=some r/\r.length<=37/\IZ r) /\
  (∀(A:Int) (C:DR),∃r,Z1R A C=some r/\True) /\
  (∀(A:AO),Ce A->∃r,qG A=some r/\(r.1.length<=60/\Cj r.1/\(r.2=0->1<=r.1.length))) /\
  (∀(A:BR) (C:Az),Cm A->Be C->∃r,rZ A C=some r/\Cm r.1) /\
  (∀(A C:Int),∃r,Rn A C=some r/\CO r) /\
  (∀(A:BM),Be A.Aw->∃r,Z1B A=some r/\r.1.length<=257/\Cj r.1) /\
  (∀(A:Int) (C:List Int),C.length<=100000->Cj C->∃r,Z1l A C=some r/\r.length=C.length+3/\Cj r) /\
  (∀(A:Int) (C:List Int),C.length<=100000->∃r,dW A C=some r/\r.q0.length=C.length/\Cj r.q0) /\
  (∀(A:List BC) (C:Int),(A.length<=1/\EY A)->∃r,Z36 A C=some r/\r.1.length<=1/\EY r.1/\r.2.length<=1/\EY r.2) /\
  (∀(k:Int) (A:Ad) (C:BC),BV k A->Hr C->0<=k->k<=1000000->∃r,Z2e A C=some r/\BV k r) /\
  (∀(A:Int) (C:BC),Hr C->∃r,Z24 A C=some r/\True) /\
  (∀(A:AZ) (C:Int),BF A->∃r,Z12 A C=some r/\True) /\
  (∀(A:BO),∃r,Z34 A=some r/\True) /\
  (∀(A:Int) (C:List Int),C.length<=65536->Cj C->∃r,qP A C=some r/\r.1.length<=65536/\Cj r.1) /\
  (∀(A:BR) (C:BM),Cm A->Be C.Aw->∃r,uD A C=some r/\Cm r.1/\Be r.2.1):=by
 refine⟨fun A=>Bd (fun(p:eY)=>match p with | .b0 ..=>True | .b1 _ z D=>0<=D/\D<=37/\(z.length:Int)<=D/\IZ z | .b2 _ z D=>0<=D/\D<=36/\(z.length:Int)<=D+1/\IZ z) (fun(p:eY)=>match p with | .b0 ..=>(1,0,0) | .b1 _ _ D=>(0,(37 - D).toNat,1) | .b2 _ _ D=>(0,(37 - D).toNat,0)) ?_ _ ?_,
  fun A C=>CG (True) ?_ fun hp=>?_,
  fun A J=>Bd (fun(p:bJ)=>match p with | .b0 q=>Ce q | .b1 q z _=>Ce z/\1<=q.length/\q.length<=10/\Cj q | .b2 q z _=>Ce z/\1<=q.length/\q.length<=15/\Cj q | .b3 q z _=>Ce z/\1<=q.length/\q.length<=17/\Cj q | .b4 q z _=>Ce z/\1<=q.length/\q.length<=18/\Cj q | .b5 q z _=>Ce z/\1<=q.length/\q.length<=19/\Cj q | .b6 q z _=>Ce z/\1<=q.length/\q.length<=27/\Cj q | .b7 q z _=>Ce z/\1<=q.length/\q.length<=35/\Cj q | .b8 q z _=>Ce z/\1<=q.length/\q.length<=43/\Cj q | .b9 q z _=>Ce z/\1<=q.length/\q.length<=44/\Cj q) (fun(p:bJ)=>match p with | .b0 ..=>(0,0,9) | .b1 ..=>(0,0,8) | .b2 ..=>(0,0,7) | .b3 ..=>(0,0,6) | .b4 ..=>(0,0,5) | .b5 ..=>(0,0,4) | .b6 ..=>(0,0,3) | .b7 ..=>(0,0,2) | .b8 ..=>(0,0,1) | .b9 ..=>(0,0,0)) ?_ _ ?_,
  fun A C J M=>Bd (fun(p:dV)=>match p with | .b0 q z=>Cm q/\Be z | .b1 q z _=>Cm q/\Be z/\ES z) (fun(p:dV)=>match p with | .b0 ..=>(0,0,1) | .b1 ..=>(0,0,0)) ?_ _ ?_,
  fun A C=>Bd (fun(p:gX)=>match p with | .b0 ..=>True | .b1 _ _ _ G=>0<=G/\G<=8) (fun(p:gX)=>match p with | .b0 ..=>(1,0,0) | .b1 _ _ _ G=>(0,(8 - G).toNat,0)) ?_ _ ?_,
  fun A J=>CG (Be A.Aw) ?_ fun hp=>?_,
  fun A C J M=>CG (C=C) ?_ fun hp=>?_,
  fun A C J=>Bd (fun(p:dU)=>match p with | .b0 _ z=>z=C | .b1 q z D G=>q=C/\q.length<=100000/\z.length=C.length/\0<=G/\G<=(q.length:Int)/\(D.length:Int)=G/\Cj D) (fun(p:dU)=>match p with | .b0 ..=>(1,0,0) | .b1 q _ _ G=>(0,((q.length:Int) - G).toNat,0)) ?_ _ ?_,
  fun A C J=>Bd (fun(p:gW)=>match p with | .b0 q _=>q.length<=1/\EY q | .b1 q _ D G I=>q.length<=1/\EY q/\D.length<=1/\EY D/\G.length<=1/\EY G/\0<=I/\I<=(q.length:Int)/\(D.length:Int)+(G.length:Int)<=I | .b2 q _ D G I=>q.length<=1/\EY q/\D.length<=1/\EY D/\G.length<=1/\EY G/\0<=I/\I<(q.length:Int)/\(D.length:Int)+(G.length:Int)<=I+1) (fun(p:gW)=>match p with | .b0 ..=>(1,0,0) | .b1 q _ _ _ I=>(0,((q.length:Int) - I).toNat,1) | .b2 q _ _ _ I=>(0,((q.length:Int) - I).toNat,0)) ?_ _ ?_,
  fun k A C J M O Q=>Bd (fun(p:dP)=>match p with | .b0 q z=>BV k q/\Hr z | .b1 q z _=>lkB k q/\Hr z/\q.Df.BL=z.BL/\z.Kind≠1) (fun(p:dP)=>match p with | .b0 ..=>(0,0,1) | .b1 ..=>(0,0,0)) ?_ _ ?_,
  fun A C J=>Bd (fun(p:dI)=>match p with | .b0 _ z=>Hr z | .b1 _ z=>Hr z) (fun(p:dI)=>match p with | .b0 ..=>(0,0,1) | .b1 ..=>(0,0,0)) ?_ _ ?_,
  fun A C J=>CG (BF A) ?_ fun hp=>?_,
  fun A=>CG (True) ?_ fun hp=>?_,
  fun A C J M=>CG (C.length<=65536/\Cj C) ?_ fun hp=>?_,
  fun A C J M=>Bd (fun(p:fE)=>match p with | .b0 q z=>Cm q/\Be z.Aw | .b1 q z _ _=>Cm q/\Be z.Aw | .b2 _ z D _ _=>Cm z/\Be D.Aw | .b3 _ z D _ _=>Cm z/\Be D.Aw/\0<z.Ap.length | .b4 _ z D _ _=>Be D.Aw/\Cm { z with Open:=false } | .b5 _ z _ _=>Cm z) (fun(p:fE)=>match p with | .b0 ..=>(0,0,5) | .b1 ..=>(0,0,4) | .b2 ..=>(0,0,1) | .b3 ..=>(0,0,3) | .b4 ..=>(0,0,2) | .b5 ..=>(0,0,0)) ?_ _ ?_⟩
 all_goals try (intro p hp;cases p)
 all_goals
  try dsimp only at hp
  try exact False.elim hp
  try have N:=hp
  try dsimp only[BV,Cm,BF,DW,Be,ES,EW,EE,Ba,Ed,Bh]at N
  try (repeat with_reducible (have S:=And.left hp;replace hp:=And.right hp))
  try simp only[QH,Zd4,Zch,ZcD,U2,Zcn,ZbI,WJ,Zfv,ZcA,ZcZ,ZaG,ZeY,rP,Me]
  try dsimp only
  repeat' first|(refine D9 ?_;dsimp only;try simp(disch:=omega) only[Bv,Bi,List.nil_append,List.drop_zero])|(refine EN (fun h=>?_) (fun h=>?_)<;>(try simp only[Fe,reduceCtorEq]at h;try simp(disch:=omega) only[Bv]at h))|refine Dq ?_ ?_|refine GN ?_|refine Am (Zfc _ _) fun(v:Bool) hm F=>?_|refine Am (Zv9 _) fun(v:Int) hm F=>?_|refine Am (Ztk _) fun(v:Int) hm F=>?_|refine Am (ZxI _) fun(v:Int) hm F=>?_|refine Am (Z23 _ ?_) fun(v:Int) hm F=>?_|refine Am (bH _) fun(v:CP) hm F=>?_|refine Am (ZpU _) fun(v:(List Int)) hm F=>?_|refine Am (Zfy _ _ ?_ ?_) fun(v:JH) hm F=>?_|refine Am (Zrq _) fun(v:Bool) hm F=>?_|refine Am (Z1O _) fun(v:Int) hm F=>?_|refine Am (ZwZ _ _ _) fun(v:Int) hm F=>?_|refine Am (ZCi _ _ ?_) fun(v:Int) hm F=>?_|refine Am (ZxS _) fun(v:(List Int)) hm F=>?_|refine Am (Zqm _ _ ?_ ?_) fun(v:(List Int)) hm F=>?_|refine Qd ?_ fun v F=>?_|refine Am (Ztd _ _) fun(v:Bool) hm F=>?_|refine iK ?_ fun v F=>?_|refine Am (ZB1 _ _) fun(v:CW) hm F=>?_|refine Am (ZyZ _ _ _) fun(v:Bool) hm F=>?_|refine Am (Zcx _) fun(v:Int) hm F=>?_|refine Am (Zea _) fun(v:Int) hm F=>?_|with_reducible apply And.intro|rfl|assumption|exact True.intro|omega|exact decide_eq_true (GG _).1|exact Fz (by assumption) (by omega)|exact Fh (by assumption) (by omega) |  exact GM (by assumption) (by omega)|(refine ET.2 ?_;first|omega|grind)|(apply GX;first|omega|(simp only[Bi];omega))|(simp only[Dp,Bi,Cb,maxLen_eq,kL,kA]<;>omega)|(simp(disch:=omega) only[Bv,decide_eq_true_eq,bne_iff_ne,ne_eq];(repeat' split)<;>omega)|(simp[Di,Eu];done)|grind|(simp only[Dp,Bi,Cb,maxLen_eq,kL,kA]<;>grind)|grind [EG]
def Zev:=Jn.1
def Zwv:=Jn.2.1
def ZtU:=Jn.2.2.1
def Zx5:=Jn.2.2.2.1
def ZAL:=Jn.2.2.2.2.1
def Zu3:=Jn.2.2.2.2.2.1
def ZtJ:=Jn.2.2.2.2.2.2.1
def ZcK:=Jn.2.2.2.2.2.2.2.1
def ZAo:=Jn.2.2.2.2.2.2.2.2.1
def Zx7:=Jn.2.2.2.2.2.2.2.2.2.1
def ZwM:=Jn.2.2.2.2.2.2.2.2.2.2.1
def ZrS:=Jn.2.2.2.2.2.2.2.2.2.2.2.1
def ZBT:=Jn.2.2.2.2.2.2.2.2.2.2.2.2.1
def Zd8:=Jn.2.2.2.2.2.2.2.2.2.2.2.2.2.1
def ZeR:=Jn.2.2.2.2.2.2.2.2.2.2.2.2.2.2
end Go.Proofs.YtjodhcdmhobmoaaGreatDoor
